/- A part of the proof of grammarTexts (merged by a program). -/
import Derived.Test.YtehhlchbbdaipaaGreatDoorB
import Derived.LoopN
import Derived.Orders
section
namespace Go.Am
open Go Go.RowKit
variable {P:Program}
section
variable {base:Nat}{w0:Start}{I:Cz}{μ:Mu}{st:St}{w:World}
def Si (P:Program)(t:TypeId)(f off:Nat)(agg:Option Nat):Bool:=
 match P.underlying t with
 |some (.struct fs)=>(match fs[f]? with
  |some fd=>Nat.beq fd.offset off&&RG P fd.type agg
  |none=>false)
 |_=>false
theorem aJ {t:TypeId}{f off:Nat}{agg:Option Nat}(ht:Si P t f off agg=true){x v:AV}{rx:Value}{st':St}(hx:Ad I μ x rx)(h:La off agg x st=some (v,st')) :
 st'=st/\∃rv,(Instr.field t rx f).run P w=.ok rv w/\Ad I μ v rv:=by
 unfold Si at ht
 split at ht
 ·rename_i fs hd
  split at ht
  ·rename_i fd hfd
   rw[Bool.and_eq_true] at ht
   have hoff:=Nat.eq_of_beq_eq_true ht.1
   unfold La at h
   cases hx with
   |agg cs rvs hv h1=>
    have hl:=hv.length
    cases agg with
    |some n=>
     obtain⟨d,i,g1,g2,g3,g4⟩:=Rs ht.2
     simp only[ble_eq,cond_eq_ite,decide_eq_true_eq] at h
     split at h
     ·rename_i hle
      cases h
      refine⟨rfl,.agg ((rvs.drop off).take n).toArray,?_,.agg _ _ ((hv.drop off).take n) ((h1.drop off).take n)⟩
      simp only[Instr.field,Sem.run_bind,run_underlying hd,Result.andThen_ok,hfd,asAgg,Sem.run_pure,hoff,part,Jn g1,g3,if_true,Bz g2,g4]
      congr 2
      apply Array.ext'
      simp
     ·cases h
    |none=>
     obtain⟨d,i,g1,g2,g3,g4⟩:=Rt ht.2
     simp only[DX] at h
     split at h
     ·rename_i u hu
      cases h
      obtain⟨rv,r1,r2⟩:=hv.get off v hu
      refine⟨rfl,rv,?_,r2⟩
      simp only[Instr.field,Sem.run_bind,run_underlying hd,Result.andThen_ok,hfd,asAgg,Sem.run_pure,hoff,part,Jn g1,g3,Bool.false_eq_true,if_false]
      simp[r1]
     ·cases h
   |_=>simp at h
  ·cases ht
 ·cases ht
def MB (b:Bool)(l:List Operand):Option (List Operand):=bif b then some l else none
theorem BL {b:Bool}{l os:List Operand}(h:MB b l=some os):b=true/\os=l:=by
 unfold MB at h; cases b <;> simp at h; exact⟨rfl,h.symm⟩
def isInt (P:Program)(t:TypeId)(k:Option IntKind):Bool:=match P.underlying t with
 |some (.int j)=>(match k with|some k=>NY j k|none=>true)
 |_=>false
def isStr (P:Program)(t:TypeId):Bool:=match P.underlying t with
 |some .string=>true
 |_=>false
def Ka (P:Program)(t:TypeId):TypeId:=match P.underlying t with
 |some (.slice e)=>e
 |some (.array _ e)=>e
 |some (.pointer e)=>e
 |_=>0
def QA (P:Program)(t:TypeId):Bool:=match P.underlying t with
 |some (.interface _)=>false
 |some _=>true
 |none=>false
def VE (P:Program)(t:TypeId):Bool:=match P.underlying t with
 |some (.int _)=>false
 |some _=>true
 |none=>false
def Fu (P:Program)(k:AK)(src dst:TypeId):Bool:=
 match k with
 |.BV j=>isInt P src none&&isInt P dst (some j)
 |.IG=>(isStr P src||isInt P src none)&&isStr P dst
 |.II _ ty=>gD P src dst ty
 |.JW=>iZ P src dst
 |.Mr ty n=>VZ P src dst ty n
 |_=>false
def Hy (P:Program)(k:AK)(op:BinOp)(t:TypeId)(x y:Operand):Bool:=
 match k with
 |.bin op'=>decide (op=op')
 |.eq neg k=>decide (op=if neg then .neq else .eql)&&fC P t x y k
 |.OE neg ts=>decide (op=if neg then .neq else .eql)&&mh P t ts
 |_=>false
def Dj (P:Program)(k:AK)(t:TypeId)(l h m:Bool):Bool:=
 match k with
 |.CF lo hi=>isStr P t&&lo==l&&hi==h&&!m
 |.slice sz lo hi mx=>MG P t (Ka P t) sz&&lo==l&&hi==h&&mx==m&&(!m||h)
 |.Jm len sz lo hi=>Yv P t len (Ka P t) sz&&lo==l&&hi==h&&!m
 |_=>false
def FD (P:Program)(k:AK)(t:TypeId):Bool:=
 match k with
 |.indexAddr sz=>MG P t (Ka P t) sz
 |.FX len sz=>Yv P t len (Ka P t) sz
 |_=>false
def Dy (P:Program)(k:AK)(b:Builtin)(ts:List TypeId):Bool:=
 match b,ts with
 |.len,[t]=>(match k with|.len lk=>gU P t lk|_=>false)
 |.cap,[t]=>(match k with|.cap=>(match P.underlying t with|some (.slice _)=>true|_=>false)|_=>false)
 |.min,_=>(match k with|.min=>true|_=>false)
 |.max,_=>(match k with|.max=>true|_=>false)
 |.append,[t,u]=>(match k with
  |.append _ ty sz bytes=>FL P t ty sz bytes&&VE P u
  |.Io _ ty=>FL P t ty 1 1&&isStr P u
  |_=>false)
 |.copy,[t,_]=>(match k with|.copy sz=>MG P t (Ka P t) sz|_=>false)
 |.clear,[t]=>(match k with|.clear zero=>(match P.info? (Ka P t) with|some i=>Jo P t (Ka P t) i.size i.bytes zero|none=>false)|_=>false)
 |.unsafeSliceData,_=>(match k with|.Kr=>true|_=>false)
 |.unsafeString,[t,_]=>(match k with|.Jl ty=>VY P t ty|_=>false)
 |_,_=>false
def Ib (P:Program)(X:Nat->Option Ext)(k:AK)(c:Call):Option (List Operand):=
 match c.callee with
 |.builtin b=>MB (Dy P k b c.argTypes.toList) c.args.toList
 |.invoke r name=>(match k with|.invoke n=>MB (n==name) (r::c.args.toList)|_=>none)
 |.value f=>(match k with
  |.call g=>(match f with|.func f=>MB (Nat.beq f g) c.args.toList|_=>none)
  |.ext _=>(match f with|.func f=>(match X f with|some e=>MB (match k,e with|.ext .same,.same=>true|.ext .indexByte,.indexByte=>true|.ext .compare,.compare=>true|_,_=>false) c.args.toList|none=>none)|_=>none)
  |.Gi=>some (f::c.args.toList)
  |_=>none)
def Mf (P:Program)(X:Nat->Option Ext)(k:AK)(op:Op):Option (List Operand):=
 match op with
 |.move x=>(match k with|.move=>some [x]|_=>none)
 |.assign x=>(match k with|.move=>some [x]|_=>none)
 |.pick c a b=>(match k with|.pick=>some [c,a,b]|_=>none)
 |.alloc e=>(match k with|.alloc _ ty _ zero=>MB (Nat.beq e ty&&RH P ty zero) []|_=>none)
 |.box e x=>(match k with|.box _ ty _=>MB (Nat.beq e ty) [x]|_=>none)
 |.build t parts=>(match k with|.build zero places=>MB (Wq P t parts.toList zero places) (parts.toList.map (·.2))|_=>none)
 |.buildSlice t n parts=>(match k with|.buildSlice _ ty sz len zero offs=>MB (Nat.beq n len&&LQ P t ty sz len parts.toList zero offs) (parts.toList.map (·.2))|_=>none)
 |.load t a=>(match k with|.load agg=>MB (RG P t agg) [a]|_=>none)
 |.store t a x=>(match k with|.store n=>MB ((P.info? t).map (·.size)==some n) [a,x]|_=>none)
 |.nilCheck x=>(match k with|.nilCheck=>some [x]|_=>none)
 |.binOp op t x y _=>MB (Hy P k op t x y) [x,y]
 |.unOp op _ x=>(match k with|.un op'=>MB (decide (op=op')) [x]|_=>none)
 |.convert src dst x=>MB (Fu P k src dst) [x]
 |.makeInterface t x=>(match k with|.CU u=>MB (Nat.beq t u&&QA P t) [x]|_=>none)
 |.makeFunc f first captured=>(match k with|.KY g n=>MB (decide (f=g)&&Nat.beq n first.size) (first.toList++captured.toList)|_=>none)
 |.makeMap _ r=>(match k with|.mkMap _=>MB r.isNone []|_=>none)
 |.makeSlice t l c=>(match k with|.mkSlice _ ty sz bytes zero=>MB (Jo P t ty sz bytes zero) [l,c]|_=>none)
 |.slice t x l h m=>MB (Dj P k t l.isSome h.isSome m.isSome) (x::(l.toList++(h.toList++m.toList)))
 |.fieldAddr s x f=>(match k with|.fieldAddr off=>MB (Sj P s f off) [x]|_=>none)
 |.field s x f=>(match k with|.field off agg=>MB (Si P s f off agg) [x]|_=>none)
 |.indexAddr t x i=>MB (FD P k t) [x,i]
 |.index t x i=>(match k with|.Bn=>MB (isStr P t) [x,i]|_=>none)
 |.lookup t x i ok=>(match k with|.lookup kk zero ok'=>MB (Jp P t kk zero&&ok==ok') [x,i]|_=>none)
 |.mapUpdate t m i x=>(match k with|.mapUpdate kk=>MB (bn P t kk) [m,i,x]|_=>none)
 |.insert t m i x=>(match k with|.mapUpdate kk=>MB (bn P t kk) [m,i,x]|_=>none)
 |.mapEntry t m i=>(match k with|.mapEntry kk zero=>MB (Jp P t kk zero) [m,i]|_=>none)
 |.entryStore _ m s x=>(match k with|.entryStore=>some [m,s,x]|_=>none)
 |.range t x=>(match k with|.rangeMap _=>MB (Zl P t) [x]|_=>none)
 |.next it isString=>(match k with|.next=>MB (!isString) [it]|_=>none)
 |.entry it=>(match k with|.entry=>some [it]|_=>none)
 |.extract t i=>(match k with|.extract j=>MB (Nat.beq i j) [t]|_=>none)
 |.call c=>Ib P X k c
 |_=>none
def Di:AK->Option Nat
 |.alloc id _ _ _|.box id _ _|.buildSlice id _ _ _ _ _|.II id _|.mkMap id|.mkSlice id _ _ _ _|.rangeMap id|.append id _ _ _|.Io id _=>some id
 |_=>none
def XA (s:Nat)(μ:Mu)(st:St)(k:AK):Prop:=∀id,Di k=some id->μ (s+id)=none/\s+id<st.c/\st.lo<=s+id
def BK (P:Program)(base:Nat)(w0:Start)(I:Cz)(μ:Mu)(st:St)(w:World)(o:Option Nat)(e:Sem Next)(v:AV)(st':St):Prop:=
 ∃n rv w' ν,e.run P w=.ok n w'/\(n=.value rv∨(n=.skip/\rv=undef))/\TG base w0 I μ st o ν st' w' v rv
theorem BK.VU {o:Option Nat}{e:Sem Value}{v:AV}{st':St}(h:Mh P base w0 I μ st w o e v st'):BK P base w0 I μ st w o (do pure (.value (← e))) v st':=by
 obtain⟨rv,w',ν,h1,h2⟩:=h
 exact⟨.value rv,rv,w',ν,by simp[h1,Result.andThen],.inl rfl,h2⟩
theorem BK.bS (H:Ar base w0 I μ st w){o:Option Nat}{e:Sem Unit}{v:AV}{st':St}(hv:v=.undef)(h:eF P base w0 I μ st w e st'):BK P base w0 I μ st w o (do e; pure .skip) v st':=by
 obtain⟨w',h1,h2,h3,h4⟩:=h
 subst hv
 exact⟨.skip,undef,w',μ,by simp[h1,Result.andThen],.inr ⟨rfl,rfl⟩,h2,.tuple [] [] .nil,fun _ _ h=>h,fun _ _=>rfl,h3,h4⟩
theorem BK.stay (H:Ar base w0 I μ st w){o:Option Nat}{e:Sem Value}{v:AV}{st':St}(h:st'=st/\∃rv,e.run P w=.ok rv w/\Ad I μ v rv):BK P base w0 I μ st w o (do pure (.value (← e))) v st':=by
 obtain⟨rfl,rv,h1,h2⟩:=h
 exact BK.VU (Mh.stay H h1 h2)
theorem BK.pure (H:Ar base w0 I μ st w){o:Option Nat}{v:AV}{rv:Value}(h:Ad I μ v rv):BK P base w0 I μ st w o (Pure.pure (.value rv)) v st:=
 ⟨.value rv,rv,w,μ,rfl,.inl rfl,H,h,fun _ _ h=>h,fun _ _=>rfl,rfl,rfl⟩
theorem SE (H:Ar base w0 I μ st w){o:Nat}{r:B}{v:AV}{st':St}(h:Lp o r st=some (v,st'))(hμ:μ o=none)(ho:o<st.c) :
 ∃ob,r=some (v,ob)/\Ar base w0 I μ st' w/\AA st'.h o=some ob/\st'.c=st.c/\st'.lo=st.lo:=by
 unfold Lp CQ at h
 split at h
 ·rename_i v' ob
  split at h
  ·rename_i st1 hn
   cases h
   obtain⟨h1,h2,h3,h4,_⟩:=Nt H hn hμ ho
   exact⟨ob,rfl,h1,h2,h3,h4⟩
  ·cases h
 ·cases h
theorem BK.born {st1:St}{o:Nat}{e:Sem Next}{v:AV}(hc:st1.c=st.c)(hl:st1.lo=st.lo)(h:BK P base w0 I μ st1 w (some o) e v st1):BK P base w0 I μ st w (some o) e v st1:=by
 obtain⟨n,rv,w',ν,h1,h2,h3⟩:=h
 exact⟨n,rv,w',ν,h1,h2,h3.rel,h3.val,h3.le,h3.same,hc,hl⟩
end
end Go.Am
end
section
namespace Go.Am
open Go Go.RowKit
variable {P:Program}
section
variable {base:Nat}{w0:Start}{I:Cz}{μ:Mu}{st:St}{w:World}
theorem SH {a b c a' b' c':Option Value}(h:a.toList++(b.toList++c.toList)=a'.toList++(b'.toList++c'.toList))(ha:a.isSome=a'.isSome)(hb:b.isSome=b'.isSome)(hc:c.isSome=c'.isSome):a=a'/\b=b'/\c=c':=by
 cases a <;> cases a' <;> cases b <;> cases b' <;> cases c <;> cases c' <;> simp_all
theorem Zg (ρ:Operand->Value)(a b c:Option Operand):(a.toList++(b.toList++c.toList)).map ρ=(a.map ρ).toList++((b.map ρ).toList++(c.map ρ).toList):=by
 cases a <;> cases b <;> cases c <;> rfl
theorem Nc {ρ:Operand->Value}(a:Option Operand):(a.map ρ).isSome=a.isSome:=by cases a <;> rfl
theorem LB {t:TypeId}(h:isStr P t=true):P.underlying t=some .string:=by
 unfold isStr at h; split at h
 ·assumption
 ·cases h
theorem QJ {t:TypeId}{k:Option IntKind}(h:isInt P t k=true):∃j,P.underlying t=some (.int j)/\∀k',k=some k'->j=k':=by
 unfold isInt at h; split at h
 ·rename_i j hd
  refine⟨j,hd,fun k' hk=>?_⟩
  subst hk
  exact GV h
 ·cases h
theorem aO (H:Ar base w0 I μ st w){s:Nat}{k:AK}{src dst:TypeId}(hk:Fu P k src dst=true){x v:AV}{rx:Value}{st':St}(hx:Ad I μ x rx)(hid:XA s μ st k)(h:step s k [x] st=some (v,st')) :
 BK P base w0 I μ st w ((Di k).map (s+·)) (do pure (.value (← convert src dst rx))) v st':=by
 cases k <;> simp only[Fu] at hk <;> first|(cases hk; done)|skip
 case BV j=>
  rw[Bool.and_eq_true] at hk
  obtain⟨j1,h1,_⟩:=QJ hk.1
  obtain⟨j2,h2,h3⟩:=QJ hk.2
  have:=h3 j rfl
  subst this
  exact BK.stay H (Wi h1 h2 hx h)
 case IG=>
  rw[Bool.and_eq_true,Bool.or_eq_true] at hk
  exact BK.stay H (Wh (hk.1.imp LB fun h=>(QJ h).imp fun _ h=>h.1) (LB hk.2) hx h)
 case II id ty=>
  obtain⟨i1,i2,i3⟩:=hid id rfl
  obtain⟨ob,hb,H1,hf,hc,hl⟩:=SE H h i1 i2
  exact BK.born hc hl (BK.VU (QY H1 hk hx hb hf i1 (by rw[hc]; exact i2)))
 case JW=>exact BK.stay H (Wj H hk hx h)
 case Mr ty n=>exact BK.stay H (ZO H hk hx h)
theorem df (H:Ar base w0 I μ st w){s:Nat}{k:AK}{op:BinOp}{t:TypeId}{X Y:Operand}(hk:Hy P k op t X Y=true){x y v:AV}{rx ry:Value}{st':St}(hx:Ad I μ x rx)(hy:Ad I μ y ry)(o:Option Nat)(h:step s k [x,y] st=some (v,st')) :
 BK P base w0 I μ st w o (do pure (.value (← (do eqGuard op t X Y rx ry; Go.binOp op t rx ry:Sem Value)))) v st':=by
 cases k <;> simp only[Hy] at hk <;> first|(cases hk; done)|skip
 case bin op'=>
  simp only[decide_eq_true_eq] at hk
  subst hk
  simp only[step,Fy,DX] at h
  split at h
  ·rename_i u hu
   cases h
   exact BK.stay H ⟨rfl,iY hx hy hu X Y⟩
  ·cases h
 case eq neg k=>
  simp only[Bool.and_eq_true,decide_eq_true_eq] at hk
  obtain⟨h1,h2⟩:=hk
  subst h1
  simp only[step,Fy,DX] at h
  split at h
  ·rename_i u hu
   cases h
   exact BK.stay H ⟨rfl,kU h2 H hx hy hu⟩
  ·cases h
 case OE neg ts=>
  simp only[Bool.and_eq_true,decide_eq_true_eq] at hk
  obtain⟨h1,h2⟩:=hk
  subst h1
  exact BK.stay H (cu h2 hx hy h)
theorem Xz (H:Ar base w0 I μ st w){s:Nat}{k:AK}{t:TypeId}{l hh m:Option Operand}(hk:Dj P k t l.isSome hh.isSome m.isSome=true){ρ:Operand->Value}{x:AV}{args:List AV}{v:AV}{rx:Value}{st':St}(hx:Ad I μ x rx)(ha:Ah I μ args ((l.toList++(hh.toList++m.toList)).map ρ))(o:Option Nat)(h:step s k (x::args) st=some (v,st')) :
 BK P base w0 I μ st w o (do pure (.value (← Instr.sliceAt t rx (l.map ρ) (hh.map ρ) (m.map ρ)))) v st':=by
 rw[Zg] at ha
 have conv:∀{b:Bool} {a:Option Operand} {r:Option Value},b=a.isSome->(b=true↔r.isSome=true)->r.isSome=(a.map ρ).isSome:=by
  intro b a r h1 h2
  rw[Nc,← h1]
  cases b <;> cases hr:r.isSome <;> simp_all
 cases k <;> simp only[Dj] at hk <;> first|(cases hk; done)|skip
 case CF lo hi=>
  simp only[Bool.and_eq_true,beq_iff_eq,Bool.not_eq_true'] at hk
  obtain⟨⟨⟨h1,h2⟩,h3⟩,h4⟩:=hk
  have hm:m=none:=by cases m <;> simp_all
  subst hm
  simp only[Option.map_none,Option.toList_none,List.append_nil] at ha
  obtain⟨e1,rlo,rhi,e2,e3,e4,e5⟩:=TY (LB h1) hx ha h
  obtain⟨g1,g2,_⟩:=SH (c:=none) (c':=none) (by simpa using e2.symm) (conv h2 e3) (conv h3 e4) rfl
  subst g1 g2
  exact BK.stay H ⟨e1,e5⟩
 case slice sz lo hi mx=>
  simp only[Bool.and_eq_true,beq_iff_eq,Bool.or_eq_true,Bool.not_eq_true'] at hk
  obtain⟨⟨⟨⟨h1,h2⟩,h3⟩,h4⟩,h5⟩:=hk
  obtain⟨e1,rlo,rhi,rmx,e2,e3,e4,e6,e5⟩:=ZY H h1 hx ha (by intro q; rw[h4] at q; rw[h3]; rcases h5 with h5|h5 <;> simp_all) h
  obtain⟨g1,g2,g3⟩:=SH e2.symm (conv h2 e3) (conv h3 e4) (conv h4 e6)
  subst g1 g2 g3
  exact BK.stay H ⟨e1,e5⟩
 case Jm len sz lo hi=>
  simp only[Bool.and_eq_true,beq_iff_eq,Bool.not_eq_true'] at hk
  obtain⟨⟨⟨h1,h2⟩,h3⟩,h4⟩:=hk
  have hm:m=none:=by cases m <;> simp_all
  subst hm
  simp only[Option.map_none,Option.toList_none,List.append_nil] at ha
  obtain⟨e1,rlo,rhi,e2,e3,e4,e5⟩:=TZ H h1 hx ha h
  obtain⟨g1,g2,_⟩:=SH (c:=none) (c':=none) (by simpa using e2.symm) (conv h2 e3) (conv h3 e4) rfl
  subst g1 g2
  exact BK.stay H ⟨e1,e5⟩
theorem YQ {t:TypeId}(h:VE P t=true):∃d,P.underlying t=some d/\∀k,d≠.int k:=by
 unfold VE at h; split at h
 ·cases h
 ·rename_i d hne hd; exact⟨d,hd,fun k e=>by subst e; exact hne k rfl⟩
 ·cases h
theorem VC (H:Ar base w0 I μ st w){s:Nat}{k:AK}{b:Builtin}{ts:List TypeId}(hk:Dy P k b ts=true){args:List AV}{rargs:List Value}{v:AV}{st':St}(ha:Ah I μ args rargs)(hid:XA s μ st k)(h:step s k args st=some (v,st'))(ty:TypeId)(cs:Array Bool):BK P base w0 I μ st w ((Di k).map (s+·)) (builtin b ts.toArray ty cs rargs.toArray) v st':=by
 unfold Dy at hk
 split at hk
 ·rename_i t
  cases k <;> simp at hk
  obtain⟨x,rfl,h⟩:=Aq h
  obtain⟨rx,rfl,hx⟩:=ha.one
  exact BK.stay H (gT H hk hx h)
 ·rename_i t
  cases k <;> simp at hk
  obtain⟨x,rfl,h⟩:=Aq h
  obtain⟨rx,rfl,hx⟩:=ha.one
  split at hk
  ·rename_i hd
   exact BK.stay H (iW hd hx h)
  ·cases hk
 ·cases k <;> simp at hk
  exact BK.stay H (gN _ _ ha h)
 ·cases k <;> simp at hk
  exact BK.stay H (gQ _ _ ha h)
 ·rename_i t u
  cases k <;> simp at hk
  ·rename_i id e sz bytes
   obtain⟨i1,i2,i3⟩:=hid id rfl
   obtain⟨x,y,rfl,h⟩:=BF h
   obtain⟨rx,ry,rfl,hx,hy⟩:=ha.two
   obtain⟨d,d1,d2⟩:=YQ hk.2
   exact BK.VU (Yx H hk.1 d1 d2 hx hy h i1 i2 i3)
  ·rename_i id e
   obtain⟨i1,i2,i3⟩:=hid id rfl
   obtain⟨x,y,rfl,h⟩:=BF h
   obtain⟨rx,ry,rfl,hx,hy⟩:=ha.two
   exact BK.VU (TA H hk.1 (LB hk.2) hx hy h i1 i2 i3)
 ·rename_i t u
  cases k <;> simp at hk
  obtain⟨x,y,rfl,h⟩:=BF h
  obtain⟨rx,ry,rfl,hx,hy⟩:=ha.two
  exact BK.VU (dR H hk hx hy h _)
 ·rename_i t
  cases k <;> simp at hk
  split at hk
  ·obtain⟨x,rfl,h⟩:=Aq h
   obtain⟨rx,rfl,hx⟩:=ha.one
   exact BK.VU (aQ H hk hx h _)
  ·cases hk
 ·cases k <;> simp at hk
  obtain⟨x,rfl,h⟩:=Aq h
  obtain⟨rx,rfl,hx⟩:=ha.one
  exact BK.stay H (Xq hx h)
 ·rename_i t u
  cases k <;> simp at hk
  obtain⟨x,y,rfl,h⟩:=BF h
  obtain⟨rx,ry,rfl,hx,hy⟩:=ha.two
  exact BK.VU (TN H hk hx hy h)
 ·cases hk
end
end Go.Am
end
section
namespace Go.Am
open Go Go.RowKit
variable {P:Program}
def VT (P:Program)(X:Nat->Option Ext):Prop:=
 ∀f e,X f=some e->∀(args:Array Value) (w:World),(callFunc f args).run P w=((XN e args).run P w).andThen fun v w=>.ok (.value v) w
section
variable {base:Nat}{w0:Start}{I:Cz}{μ:Mu}{st:St}{w:World}
theorem XY {l:List AV}{f:AV->B}{r:AV × Ai}(h:b1 l f=some r):∃x,l=[x]/\f x=some r:=by
 unfold b1 at h; split at h
 ·exact⟨_,rfl,h⟩
 ·cases h
theorem di {l:List AV}{f:AV->AV->B}{r:AV × Ai}(h:b2 l f=some r):∃x y,l=[x,y]/\f x y=some r:=by
 unfold b2 at h; split at h
 ·exact⟨_,_,rfl,h⟩
 ·cases h
theorem FJ (l:List Operand):MB false l=none:=rfl
def DC:AK->Bool
 |.alloc ..|.box ..|.buildSlice ..|.II ..|.mkMap _|.mkSlice ..=>true
 |_=>false
theorem PI {k:AK}{b:Builtin}{ts:List TypeId}(h:Dy P k b ts=true)(hb:DC k=true):False:=by
 unfold Dy at h
 split at h <;> cases k <;> simp[DC] at hb h
theorem Fv {X:Nat->Option Ext}{k:AK}{c:Call}{os:List Operand}(h:Ib P X k c=some os)(hb:DC k=true):False:=by
 unfold Ib at h
 split at h
 ·exact PI (BL h).1 hb
 ·cases k <;> simp[DC] at hb h
 ·cases k <;> simp[DC] at hb h
theorem VD (H:Ar base w0 I μ st w){X:Nat->Option Ext}{s id:Nat}{k:AK}{o:Oper}{os:List Operand}(hk:Mf P X k o.op=some os){ρ:Operand->Value}{args:List AV}(ha:Ah I μ args (os.map ρ)){v:AV}{ob:Ai}(hb:born s k args=some (v,ob))(hid:Di k=some id)(hf:AA st.h (s+id)=some ob)(hμ:μ (s+id)=none)(hc:s+id<st.c):BK P base w0 I μ st w (some (s+id)) (execOp ρ o) v st:=by
 obtain⟨dst,op,type,pos,after,guard⟩:=o
 simp only at hk
 cases k <;> simp only[Di] at hid <;> first|(cases hid; done)|skip
 all_goals (cases hid)
 case alloc ty sz zero=>
  cases hb
  cases op <;> simp only[Mf,Hy,Fu,Dj,FD,FJ,reduceCtorEq] at hk
  case alloc e=>
   obtain⟨h1,h2⟩:=BL hk
   try simp only[Bool.and_eq_true] at h1
   have:=Nat.eq_of_beq_eq_true h1.1
   subst this
   exact BK.VU (aa H h1.2 hf hμ hc)
  case call c=>exact (Fv hk rfl).elim
 case box ty sz=>
  obtain⟨x,rfl,hb⟩:=XY hb
  cases op <;> simp only[Mf,Hy,Fu,Dj,FD,FJ,reduceCtorEq] at hk
  case box e y=>
   obtain⟨h1,h2⟩:=BL hk
   try simp only[Bool.and_eq_true] at h1
   have:=Nat.eq_of_beq_eq_true h1
   subst this
   subst h2
   obtain⟨rx,e1,hx⟩:=ha.one
   cases e1
   exact BK.VU (iX H hx hb hf hμ hc)
  case call c=>exact (Fv hk rfl).elim
 case buildSlice ty sz len zero offs=>
  cases op <;> simp only[Mf,Hy,Fu,Dj,FD,FJ,reduceCtorEq] at hk
  case buildSlice t n parts=>
   obtain⟨h1,h2⟩:=BL hk
   try simp only[Bool.and_eq_true] at h1
   have:=Nat.eq_of_beq_eq_true h1.1
   subst this
   subst h2
   have hv:Ah I μ args (parts.toList.map fun p=>ρ p.2):=by simpa [List.map_map,Function.comp_def] using ha
   have:=RF (P:=P) H h1.2 hv hb hf hμ hc
   exact BK.VU (by simpa using this)
  case call c=>exact (Fv hk rfl).elim
 case II ty=>
  obtain⟨x,rfl,hb⟩:=XY hb
  cases op <;> simp only[Mf,Hy,Fu,Dj,FD,FJ,reduceCtorEq] at hk
  case convert src dst y=>
   obtain⟨h1,h2⟩:=BL hk
   try simp only[Bool.and_eq_true] at h1
   subst h2
   obtain⟨rx,e1,hx⟩:=ha.one
   cases e1
   exact BK.VU (QY H h1 hx hb hf hμ hc)
  case call c=>exact (Fv hk rfl).elim
 case mkMap=>
  cases hb
  cases op <;> simp only[Mf,Hy,Fu,Dj,FD,FJ,reduceCtorEq] at hk
  case makeMap t r=>
   obtain⟨h1,h2⟩:=BL hk
   try simp only[Bool.and_eq_true] at h1
   have hr:r=none:=by simpa using h1
   subst hr
   exact BK.VU (Zk H hf hμ hc)
  case call c=>exact (Fv hk rfl).elim
 case mkSlice ty sz bytes zero=>
  obtain⟨x,y,rfl,hb⟩:=di hb
  cases op <;> simp only[Mf,Hy,Fu,Dj,FD,FJ,reduceCtorEq] at hk
  case makeSlice t l c=>
   obtain⟨h1,h2⟩:=BL hk
   try simp only[Bool.and_eq_true] at h1
   subst h2
   obtain⟨rx,ry,e1,hx,hy⟩:=ha.two
   cases e1
   exact BK.VU (WC H h1 hx hy hb hf hμ hc)
  case call c=>exact (Fv hk rfl).elim
 all_goals (cases hb)
end
end Go.Am
end
section
namespace Go.Am
open Go Go.RowKit
variable {P:Program}
section
variable {base:Nat}{w0:Start}{I:Cz}{μ:Mu}{st:St}{w:World}
theorem Nn {s:Nat}{k:AK}{args:List AV}(hb:DC k=true):∃id,Di k=some id/\step s k args st=Lp (s+id) (born s k args) st:=by
 cases k <;> simp[DC] at hb <;> exact⟨_,rfl,rfl⟩
theorem UA {t:TypeId}(h:QA P t=true):∃d,P.underlying t=some d/\∀ms,d≠.interface ms:=by
 unfold QA at h; split at h
 ·cases h
 ·rename_i d hne hd; exact⟨d,hd,fun k e=>by subst e; exact hne k rfl⟩
 ·cases h
theorem Sm {ρ:Operand->Value}{dst:Option Tmp}{b:Builtin}{args:Array Operand}{ts:Array TypeId}{type:TypeId}{pos:String}{after:Array Edge}{g:Option (Nat × Bool)} :
 execOp ρ ⟨dst,.call ⟨.builtin b,args,ts⟩,type,pos,after,g⟩=builtin b ts type (args.map fun|.const _=>true|_=>false) (args.map ρ):=rfl
theorem Rc {ρ:Operand->Value}{dst:Option Tmp}{f:FuncId}{args:Array Operand}{ts:Array TypeId}{type:TypeId}{pos:String}{after:Array Edge}{g:Option (Nat × Bool)}(hf:ρ (.func f)=.func (.func f) #[] #[])(w:World) :
 (execOp ρ ⟨dst,.call ⟨.value (.func f),args,ts⟩,type,pos,after,g⟩).run P w=(callFunc f (args.map ρ)).run P w:=by
 have:execOp ρ ⟨dst,.call ⟨.value (.func f),args,ts⟩,type,pos,after,g⟩=(do let d ← Deferred.ofValue (ρ (.func f)) (args.map ρ); invoke d.target d.args):=rfl
 rw[this,hf]
 simp[Deferred.ofValue,invoke,Result.andThen]
theorem aU (H:Ar base w0 I μ st w){X:Nat->Option Ext}(hX:VT P X){s:Nat}{k:AK}{c:Call}{os:List Operand}(hk:Ib P X k c=some os){ρ:Operand->Value}(hρ:∀f,ρ (.func f)=.func (.func f) #[] #[]){args:List AV}(ha:Ah I μ args (os.map ρ)){v:AV}{st':St}(hid:XA s μ st k)(h:step s k args st=some (v,st'))(dst:Option Tmp)(type:TypeId)(pos:String)(after:Array Edge)(guard:Option (Nat × Bool)) :
 BK P base w0 I μ st w ((Di k).map (s+·)) (execOp ρ ⟨dst,.call c,type,pos,after,guard⟩) v st':=by
 obtain⟨callee,cargs,ts⟩:=c
 unfold Ib at hk
 split at hk
 ·rename_i b hb
  simp only at hb hk
  subst hb
  obtain⟨h1,h2⟩:=BL hk
  subst h2
  rw[Sm]
  have:=VC (P:=P) H h1 ha hid h type (cargs.map fun|.const _=>true|_=>false)
  have e4:(cargs.toList.map ρ).toArray=cargs.map ρ:=by apply Array.ext'; simp
  rw[e4] at this
  exact this
 ·split at hk
  ·simp only[step] at h; cases h
  ·cases hk
 ·rename_i f hf
  simp only at hf
  subst hf
  split at hk
  ·simp only[step] at h; cases h
  ·rename_i e0
   split at hk
   ·rename_i f
    split at hk
    ·rename_i e he
     obtain⟨h1,h2⟩:=BL hk
     subst h2
     have hee:e0=e:=by cases e0 <;> cases e <;> simp at h1 <;> rfl
     subst hee
     obtain⟨e1,rv,e2,e3⟩:=iU (P:=P) (w:=w) ha h
     subst e1
     refine⟨.value rv,rv,w,μ,?_,.inl rfl,H,e3,fun _ _ h=>h,fun _ _=>rfl,rfl,rfl⟩
     rw[Rc (hρ f),hX f e0 he]
     simp only[List.map_toArray] at e2
     have e4:(cargs.toList.map ρ).toArray=cargs.map ρ:=by apply Array.ext'; simp
     rw[e4] at e2
     rw[e2]; rfl
    ·cases hk
   ·cases hk
  ·simp only[step] at h; cases h
  ·cases hk
theorem TV (H:Ar base w0 I μ st w){X:Nat->Option Ext}(hX:VT P X){s:Nat}{k:AK}{o:Oper}{os:List Operand}(hk:Mf P X k o.op=some os){ρ:Operand->Value}(hρ:∀f,ρ (.func f)=.func (.func f) #[] #[]){args:List AV}(ha:Ah I μ args (os.map ρ)){v:AV}{st':St}(hid:XA s μ st k)(h:step s k args st=some (v,st')):BK P base w0 I μ st w ((Di k).map (s+·)) (execOp ρ o) v st':=by
 cases hb:DC k with
 |true=>
  obtain⟨id,h1,h2⟩:=Nn (st:=st) (s:=s) (args:=args) hb
  rw[h2] at h
  obtain⟨i1,i2,i3⟩:=hid id h1
  obtain⟨ob,g1,H1,hf,hc,hl⟩:=SE H h i1 i2
  have:=VD (o:=o) H1 hk ha g1 h1 hf i1 (by rw[hc]; exact i2)
  rw[h1]
  exact BK.born hc hl this
 |false=>
 obtain⟨dst,op,type,pos,after,guard⟩:=o
 simp only at hk
 cases op <;> simp only[Mf,reduceCtorEq] at hk
 case move x=>
  split at hk <;> cases hk
  obtain⟨x,rfl,h⟩:=Aq h
  obtain⟨rx,e1,hx⟩:=ha.one
  cases e1; cases h
  exact BK.pure H hx
 case assign x=>
  split at hk <;> cases hk
  obtain⟨x,rfl,h⟩:=Aq h
  obtain⟨rx,e1,hx⟩:=ha.one
  cases e1; cases h
  exact BK.pure H hx
 case pick c a b=>
  split at hk <;> cases hk
  obtain⟨x,y,z,rfl,h⟩:=Fb h
  obtain⟨rx,ry,rz,e1,hx,hy,hz⟩:=ha.three
  cases e1
  obtain⟨e1,t,e2,e3⟩:=bU hx hy hz h
  subst e1
  refine⟨.value (if t then ρ a else ρ b),_,w,μ,?_,.inl rfl,H,e3,fun _ _ h=>h,fun _ _=>rfl,rfl,rfl⟩
  simp[execOp,e2,asBool,Result.andThen]
 case alloc=>split at hk <;> first|(cases hk; done)|(simp[DC] at hb)
 case box=>split at hk <;> first|(cases hk; done)|(simp[DC] at hb)
 case buildSlice=>split at hk <;> first|(cases hk; done)|(simp[DC] at hb)
 case makeMap=>split at hk <;> first|(cases hk; done)|(simp[DC] at hb)
 case makeSlice=>split at hk <;> first|(cases hk; done)|(simp[DC] at hb)
 case build t parts=>
  split at hk
  ·rename_i zero places
   obtain⟨h1,h2⟩:=BL hk
   subst h2
   simp only[step,DX] at h
   split at h
   ·rename_i u hu
    cases h
    obtain⟨cs,e1,e2⟩:=Option.map_eq_some_iff.1 hu
    subst e2
    have hv:Ah I μ args (parts.toList.map fun p=>ρ p.2):=by simpa [List.map_map,Function.comp_def] using ha
    have:=aV (P:=P) (w:=w) h1 hv e1
    exact BK.stay H ⟨rfl,by simpa using this⟩
   ·cases h
  ·cases hk
 case load t a=>
  split at hk
  ·obtain⟨h1,h2⟩:=BL hk
   subst h2
   obtain⟨x,rfl,h⟩:=Aq h
   obtain⟨rx,e1,hx⟩:=ha.one
   cases e1
   have h:DX st (GR st.h _ x)=some (v,st'):=h
   unfold DX at h
   split at h
   ·rename_i u hu
    cases h
    exact BK.stay H ⟨rfl,XI H h1 hx hu⟩
   ·cases h
  ·cases hk
 case store t a x=>
  split at hk
  ·obtain⟨h1,h2⟩:=BL hk
   subst h2
   obtain⟨x,y,rfl,h⟩:=BF h
   obtain⟨rx,ry,e1,hx,hy⟩:=ha.two
   cases e1
   obtain⟨e1,e2⟩:=ZW H (by simpa using h1) hx hy h
   exact BK.bS H e1 e2
  ·cases hk
 case nilCheck x=>
  split at hk <;> cases hk
  obtain⟨y,rfl,h⟩:=Aq h
  obtain⟨rx,e1,hx⟩:=ha.one
  cases e1
  obtain⟨e1,e2,e3⟩:=UB hx h
  subst e1 e2
  refine⟨.value (ρ x),_,w,μ,?_,.inl rfl,H,hx,fun _ _ h=>h,fun _ _=>rfl,rfl,rfl⟩
  rcases e3 with⟨a,ha'⟩|⟨f,a,b,ha'⟩ <;> simp[execOp,ha']
 case binOp op t x y yt=>
  obtain⟨h1,h2⟩:=BL hk
  subst h2
  have:∃a b,args=[a,b]:=by
   have hl:=ha.length
   simp at hl
   match args,hl with
   |[a,b],_=>exact⟨a,b,rfl⟩
  obtain⟨a,b,rfl⟩:=this
  obtain⟨rx,ry,e1,hx,hy⟩:=ha.two
  cases e1
  exact df H h1 hx hy _ h
 case unOp op t x=>
  split at hk
  ·obtain⟨h1,h2⟩:=BL hk
   subst h2
   simp only[decide_eq_true_eq] at h1
   subst h1
   obtain⟨y,rfl,h⟩:=Aq h
   obtain⟨rx,e1,hx⟩:=ha.one
   cases e1
   have h:DX st (un op y)=some (v,st'):=h
   unfold DX at h
   split at h
   ·rename_i u hu
    cases h
    exact BK.stay H ⟨rfl,ja hx hu⟩
   ·cases h
  ·cases hk
 case convert src dst' x=>
  obtain⟨h1,h2⟩:=BL hk
  subst h2
  have:∃a,args=[a]:=by
   have hl:=ha.length
   simp at hl
   match args,hl with
   |[a],_=>exact⟨a,rfl⟩
  obtain⟨a,rfl⟩:=this
  obtain⟨rx,e1,hx⟩:=ha.one
  cases e1
  exact aO H h1 hx hid h
 case makeInterface t x=>
  split at hk
  ·obtain⟨h1,h2⟩:=BL hk
   subst h2
   rw[Bool.and_eq_true] at h1
   have:=Nat.eq_of_beq_eq_true h1.1
   subst this
   obtain⟨d,d1,d2⟩:=UA h1.2
   obtain⟨y,rfl,h⟩:=Aq h
   obtain⟨rx,e1,hx⟩:=ha.one
   cases e1; cases h
   exact BK.stay H ⟨rfl,WG d1 d2 hx⟩
  ·cases hk
 case makeFunc f first captured=>
  split at hk
  ·obtain⟨h1,h2⟩:=BL hk
   subst h2
   simp only[Bool.and_eq_true,decide_eq_true_eq] at h1
   have:=Nat.eq_of_beq_eq_true h1.2
   obtain⟨e1,_⟩:=h1
   subst e1 this
   simp only[step] at h
   cases h
   rw[List.map_append] at ha
   have hm:=bf (P:=P) (w:=w) (f:=f) ha
   have e4:(first.toList.map ρ).toArray=first.map ρ:=by apply Array.ext'; simp
   have e5:(captured.toList.map ρ).toArray=captured.map ρ:=by apply Array.ext'; simp
   rw[e4,e5] at hm
   refine BK.stay H ⟨rfl,_,hm.1,?_⟩
   simpa using hm.2
  ·cases hk
 case slice t x l hh m=>
  obtain⟨h1,h2⟩:=BL hk
  subst h2
  cases ha with
  |cons y rx args' rl hx ha=>
  exact Xz H h1 hx ha _ h
 case fieldAddr t x f=>
  split at hk
  ·obtain⟨h1,h2⟩:=BL hk
   subst h2
   obtain⟨y,rfl,h⟩:=Aq h
   obtain⟨rx,e1,hx⟩:=ha.one
   cases e1
   exact BK.stay H (Sk h1 hx h)
  ·cases hk
 case field t x f=>
  split at hk
  ·obtain⟨h1,h2⟩:=BL hk
   subst h2
   obtain⟨y,rfl,h⟩:=Aq h
   obtain⟨rx,e1,hx⟩:=ha.one
   cases e1
   exact BK.stay H (aJ h1 hx h)
  ·cases hk
 case indexAddr t x i=>
  obtain⟨h1,h2⟩:=BL hk
  subst h2
  cases k <;> simp only[FD,reduceCtorEq,Bool.false_eq_true] at h1
  ·obtain⟨x,y,rfl,h⟩:=BF h
   obtain⟨rx,ry,e1,hx,hy⟩:=ha.two
   cases e1
   exact BK.stay H (Sa H h1 hx hy h)
  ·obtain⟨x,y,rfl,h⟩:=BF h
   obtain⟨rx,ry,e1,hx,hy⟩:=ha.two
   cases e1
   exact BK.stay H (UZ h1 hx hy h)
 case index t x i=>
  split at hk
  ·obtain⟨h1,h2⟩:=BL hk
   subst h2
   obtain⟨x,y,rfl,h⟩:=BF h
   obtain⟨rx,ry,e1,hx,hy⟩:=ha.two
   cases e1
   exact BK.stay H (UY (LB h1) hx hy h)
  ·cases hk
 case lookup t x i ok=>
  split at hk
  ·obtain⟨h1,h2⟩:=BL hk
   subst h2
   simp only[Bool.and_eq_true,beq_iff_eq] at h1
   obtain⟨h1,h3⟩:=h1
   subst h3
   obtain⟨x,y,rfl,h⟩:=BF h
   obtain⟨rx,ry,e1,hx,hy⟩:=ha.two
   cases e1
   exact BK.stay H (YT H h1 hx hy h)
  ·cases hk
 case mapUpdate t m i x=>
  split at hk
  ·obtain⟨h1,h2⟩:=BL hk
   subst h2
   obtain⟨x,y,z,rfl,h⟩:=Fb h
   obtain⟨rx,ry,rz,e1,hx,hy,hz⟩:=ha.three
   cases e1
   obtain⟨e1,e2⟩:=NB H h1 hx hy hz h
   exact BK.bS H e1 e2
  ·cases hk
 case insert t m i x=>
  split at hk
  ·obtain⟨h1,h2⟩:=BL hk
   subst h2
   obtain⟨x,y,z,rfl,h⟩:=Fb h
   obtain⟨rx,ry,rz,e1,hx,hy,hz⟩:=ha.three
   cases e1
   obtain⟨e1,e2⟩:=NB H h1 hx hy hz h
   exact BK.bS H e1 e2
  ·cases hk
 case mapEntry t m i=>
  split at hk
  ·obtain⟨h1,h2⟩:=BL hk
   subst h2
   obtain⟨x,y,rfl,h⟩:=BF h
   obtain⟨rx,ry,e1,hx,hy⟩:=ha.two
   cases e1
   exact BK.VU (UF H h1 hx hy h)
  ·cases hk
 case entryStore t m i x=>
  split at hk <;> cases hk
  obtain⟨x,y,z,rfl,h⟩:=Fb h
  obtain⟨rx,ry,rz,e1,hx,hy,hz⟩:=ha.three
  cases e1
  obtain⟨e1,e2⟩:=QE (t:=t) H hx hy hz h
  exact BK.bS H e1 e2
 case range t x=>
  split at hk
  ·rename_i id
   obtain⟨h1,h2⟩:=BL hk
   subst h2
   obtain⟨i1,i2,i3⟩:=hid id rfl
   obtain⟨y,rfl,h⟩:=Aq h
   obtain⟨rx,e1,hx⟩:=ha.one
   cases e1
   exact BK.VU (Tq H h1 hx h i1 i2)
  ·cases hk
 case next it isStr=>
  split at hk
  ·simp only[step] at h; cases h
  ·cases hk
 case entry it=>
  split at hk <;> cases hk
  obtain⟨y,rfl,h⟩:=Aq h
  obtain⟨rx,e1,hx⟩:=ha.one
  cases e1
  exact BK.stay H (aL H hx h)
 case extract t i=>
  split at hk
  ·obtain⟨h1,h2⟩:=BL hk
   subst h2
   have:=Nat.eq_of_beq_eq_true h1
   subst this
   obtain⟨y,rfl,h⟩:=Aq h
   obtain⟨rx,e1,hx⟩:=ha.one
   cases e1
   exact BK.stay H (WU hx h)
  ·cases hk
 case call c=>exact aU H hX hk hρ ha hid h dst type pos after guard
end
end Go.Am
end
section
namespace Go.Am
open Go Go.RowKit
def AV.top:AV->Option Nat
 |.AO o _|.AY o _ _ _|.Cr o=>some o
 |_=>none
theorem ZQ {I:Cz}{μ:Mu}{v:AV}{rv:Value}(h:Ad I μ v rv){o:Nat}(ht:v.top=some o):∃pl,μ o=some pl:=by
 cases h <;> simp[AV.top] at ht <;> subst ht <;> exact⟨_,by assumption⟩
def Kept (st st':St)(S:Nat->Prop):Prop:=∀p,¬S p->AA st'.h p=AA st.h p
theorem Kept.refl (st:St)(S:Nat->Prop):Kept st st S:=fun _ _=>rfl
theorem Kept.trans {a b c:St}{S:Nat->Prop}(h:Kept a b S)(k:Kept b c S):Kept a c S:=fun p hp=>(k p hp).trans (h p hp)
theorem Kept.mono {a b:St}{S T:Nat->Prop}(h:Kept a b S)(hs:∀p,S p->T p):Kept a b T:=fun p hp=>h p fun q=>hp (hs p q)
theorem Dz {st st':St}{o off:Nat}{vs:List AV}(h:Be st o off vs=some st'):Kept st st' (·=o):=by
 unfold Be at h
 rw[cond_eq_ite] at h
 split at h
 ·cases h
 split at h
 ·rename_i hf
  rw[cond_eq_ite] at h
  split at h
  ·cases h
   intro p hp
   simp only at hp
   show AA (Aa st.h o _) p=_
   rw[Hq _ _ _ (by rw[hf]; rfl),if_neg (Ne.symm hp)]
  ·cases h
 ·cases h
theorem JR {st st':St}{o:Nat}{ob:Ai}(h:newObj o ob st=some st'):Kept st st' (·=o):=by
 unfold newObj at h
 split at h
 ·rename_i h' hp
  cases h
  intro p hne
  simp only at hne
  show AA h' p=_
  rw[GU hp,if_neg (Ne.symm hne)]
 ·cases h
theorem Ju {st:St}{o:Nat}{x y:Ai}(hf:AA st.h o=some x):Kept st { st with h:=Aa st.h o y } (·=o):=by
 intro p hp
 simp only at hp
 show AA (Aa st.h o _) p=_
 rw[Hq _ _ _ (by rw[hf]; rfl),if_neg (Ne.symm hp)]
theorem RZ {st:St}{o:Nat}:Kept st { st with h:=GH st.h o } (·=o):=by
 intro p hp
 simp only at hp
 show AA (GH st.h o) p=_
 rw[Dw,if_neg (Ne.symm hp)]
theorem Lf {st st':St}{o ty sz bytes len n:Nat}{cs:List AV}{v:AV}(h:grow o ty sz bytes len n cs st=some (v,st')):Kept st st' (·=o):=by
 unfold grow at h
 rw[cond_eq_ite] at h
 split at h
 ·split at h
  ·rename_i hn; cases h; exact JR hn
  ·cases h
 ·cases h
theorem KF {st st':St}{o ty sz bytes n:Nat}{x v:AV}{new:List AV}(h:BU o ty sz bytes x n new st=some (v,st')):Kept st st' (fun p=>p=o∨x.top=some p):=by
 unfold BU at h
 simp only[cond_eq_ite] at h
 split at h
 ·cases h
 split at h
 ·split at h
  ·cases h; exact Kept.refl _ _
  ·exact (Lf h).mono fun p hp=>.inl hp
 ·split at h
  ·cases h; exact Kept.refl _ _
  ·split at h
   ·exact (Lf h).mono fun p hp=>.inl hp
   ·cases h
 ·rename_i oo off len cap
  split at h
  ·cases h; exact Kept.refl _ _
  ·unfold Dk at h
   split at h
   ·simp only[cond_eq_ite] at h
    split at h
    ·split at h
     ·split at h
      ·split at h
       ·rename_i hw; cases h; exact (Dz hw).mono fun p hp=>.inr (by rw[hp]; rfl)
       ·cases h
      ·exact (Lf h).mono fun p hp=>.inl hp
     ·split at h
      ·split at h
       ·rename_i hw; cases h; exact (Dz hw).mono fun p hp=>.inr (by rw[hp]; rfl)
       ·cases h
      ·split at h
       ·refine Kept.trans (b:={ st with h:=GH st.h oo }) ?_ ((Lf h).mono fun p hp=>.inl hp)
        exact RZ.mono fun p hp=>.inr (by rw[hp]; rfl)
       ·cases h
    ·cases h
   ·cases h
 ·cases h
def nR (s:Nat)(k:AK)(args:List AV)(p:Nat):Prop:=(Di k).map (s+·)=some p∨∃x∈args,x.top=some p
theorem Rp {st st':St}{o:Nat}{r:B}{v:AV}(h:Lp o r st=some (v,st')):Kept st st' (·=o):=by
 unfold Lp CQ at h
 split at h
 ·split at h
  ·rename_i hn; cases h; exact JR hn
  ·cases h
 ·cases h
def Dv:AK->Bool
 |.move|.pick|.build ..|.load _|.nilCheck|.bin _|.eq ..|.OE ..|.un _|.BV _|.IG|.JW|.CU _|.KY ..|.CF ..|.slice ..|.Jm ..|.fieldAddr _|.field ..|.indexAddr _
 |.FX ..|.Bn|.lookup ..|.entry|.extract _|.len _|.cap|.min|.max|.Mr ..|.Kr|.ext _=>true
 |_=>false
theorem MP {s:Nat}{k:AK}{args:List AV}{st st':St}{v:AV}(hq:Dv k=true)(h:step s k args st=some (v,st')):st'=st:=by
 have giv:∀{x:Option AV},DX st x=some (v,st')->st'=st:=fun {x} h=>by
  unfold DX at h; split at h
  ·cases h; rfl
  ·cases h
 cases k <;> simp[Dv] at hq <;> simp only[step] at h
 case move=>obtain⟨x,_,g⟩:=Aq h; cases g; rfl
 case pick=>obtain⟨x,y,z,_,g⟩:=Fb h; unfold Kz at g; split at g <;> cases g; rfl
 case build=>exact giv h
 case load=>obtain⟨x,_,g⟩:=Aq h; exact giv g
 case nilCheck=>obtain⟨x,_,g⟩:=Aq h; unfold CP at g; split at g <;> cases g <;> rfl
 case bin=>obtain⟨x,y,_,g⟩:=BF h; exact giv g
 case eq=>obtain⟨x,y,_,g⟩:=BF h; exact giv g
 case OE=>
  obtain⟨x,y,_,g⟩:=BF h
  unfold Px at g
  split at g
  ·split at g <;> cases g; rfl
  ·split at g
   ·cases g; rfl
   ·rw[cond_eq_ite] at g
    split at g
    ·split at g
     ·split at g <;> cases g; rfl
     ·cases g
    ·cases g; rfl
   ·cases g
  ·cases g
 case un=>obtain⟨x,_,g⟩:=Aq h; exact giv g
 case BV=>obtain⟨x,_,g⟩:=Aq h; unfold Hm at g; split at g <;> cases g; rfl
 case IG=>
  obtain⟨x,_,g⟩:=Aq h
  unfold Ga at g
  split at g
  ·cases g; rfl
  ·split at g <;> cases g; rfl
  ·cases g
 case JW=>
  obtain⟨x,_,g⟩:=Aq h
  unfold Ii at g
  split at g
  ·cases g
  ·split at g
   ·split at g
    ·exact giv g
    ·cases g
   ·cases g
 case CU=>obtain⟨x,_,g⟩:=Aq h; cases g; rfl
 case KY=>cases h; rfl
 case CF=>
  unfold Bp at h
  split at h
  ·split at h
   ·split at h
    ·rw[cond_eq_ite] at h; split at h <;> cases h; rfl
    ·cases h
   ·cases h
  ·cases h
 case slice=>
  unfold Bc at h
  split at h
  ·split at h
   ·split at h
    ·split at h
     ·exact giv h
     ·cases h
    ·cases h
   ·cases h
  ·cases h
 case Jm=>
  unfold Hf at h
  split at h
  ·split at h
   ·split at h
    ·split at h
     ·rw[cond_eq_ite] at h; split at h <;> cases h; rfl
     ·cases h
    ·cases h
   ·cases h
  ·cases h
 case fieldAddr=>obtain⟨x,_,g⟩:=Aq h; unfold DI at g; split at g <;> cases g <;> rfl
 case field=>
  obtain⟨x,_,g⟩:=Aq h
  unfold La at g
  split at g
  ·split at g
   ·rw[cond_eq_ite] at g; split at g <;> cases g; rfl
   ·exact giv g
  ·cases g
 case indexAddr=>
  obtain⟨x,y,_,g⟩:=BF h
  unfold AU at g
  split at g
  ·split at g
   ·rw[cond_eq_ite] at g
    split at g
    ·split at g <;> cases g; rfl
    ·cases g
   ·split at g
    ·rw[cond_eq_ite] at g; split at g <;> cases g; rfl
    ·cases g
   ·cases g
  ·cases g
 case FX=>
  obtain⟨x,y,_,g⟩:=BF h
  unfold Hl at g
  split at g
  ·rw[cond_eq_ite] at g
   split at g
   ·split at g <;> cases g <;> rfl
   ·cases g
  ·cases g
 case Bn=>
  obtain⟨x,y,_,g⟩:=BF h
  unfold Bq at g
  split at g
  ·split at g
   ·split at g <;> cases g; rfl
   ·cases g
  ·cases g
 case lookup=>
  obtain⟨x,y,_,g⟩:=BF h
  have key:∀{kk zero ok ks vs k},IV kk zero ok ks vs k st=some (v,st')->st'=st:=by
   intro kk zero ok ks vs k q
   unfold IV JV at q
   rw[cond_eq_ite] at q
   split at q
   ·split at q
    ·cases q; rfl
    ·split at q <;> cases q; rfl
    ·cases q
   ·cases q
  unfold Gn at g
  split at g
  ·exact key g
  ·split at g
   ·exact key g
   ·cases g
  ·exact key g
  ·cases g
 case entry=>
  obtain⟨x,_,g⟩:=Aq h
  unfold Lb at g
  split at g
  ·split at g
   ·split at g
    ·rw[cond_eq_ite] at g
     split at g
     ·split at g
      ·split at g
       ·split at g <;> cases g; rfl
       ·cases g
      ·cases g
     ·cases g
    ·cases g
   ·cases g
  ·cases g
 case extract=>obtain⟨x,_,g⟩:=Aq h; unfold GZ at g; split at g; exact giv g; cases g
 case len=>
  obtain⟨x,_,g⟩:=Aq h
  unfold BX at g
  split at g <;> cases g; rfl
 case cap=>obtain⟨x,_,g⟩:=Aq h; unfold Lt at g; split at g <;> cases g <;> rfl
 case min=>unfold OY at h; split at h; exact giv h; cases h
 case max=>unfold OZ at h; split at h; exact giv h; cases h
 case Mr=>
  obtain⟨x,_,g⟩:=Aq h
  unfold JQ at g
  split at g
  ·cases g; rfl
  ·split at g
   ·rw[cond_eq_ite] at g; split at g <;> cases g; rfl
   ·cases g
  ·cases g
 case Kr=>
  obtain⟨x,_,g⟩:=Aq h
  unfold GD at g
  split at g
  ·cases g; rfl
  ·rw[cond_eq_ite] at g; split at g <;> cases g; rfl
  ·cases g
 case ext e=>
  cases e
  ·obtain⟨x,_,g⟩:=Aq h; cases g; rfl
  ·obtain⟨x,y,_,g⟩:=BF h
   unfold DW at g
   split at g
   ·split at g <;> cases g; rfl
   ·cases g
  ·obtain⟨x,y,_,g⟩:=BF h
   unfold Ij at g
   split at g
   ·split at g <;> cases g; rfl
   ·cases g
theorem Xu {s:Nat}{k:AK}{args:List AV}{st st':St}{v:AV}(h:step s k args st=some (v,st')):Kept st st' (nR s k args):=by
 cases hq:Dv k with
 |true=>rw[MP hq h]; exact Kept.refl _ _
 |false=>
 cases hb:DC k with
 |true=>
  obtain⟨id,h1,h2⟩:=Nn (st:=st) (s:=s) (args:=args) hb
  rw[h2] at h
  exact (Rp h).mono fun p hp=>.inl (by rw[h1,hp]; rfl)
 |false=>
 cases k <;> simp[Dv] at hq <;> simp[DC] at hb <;> simp only[step] at h
 case fail=>cases h
 case store=>
  obtain⟨x,y,e,g⟩:=BF h
  subst e
  unfold BH at g
  split at g
  ·rename_i o off
   rw[cond_eq_ite] at g
   split at g
   ·cases g
   ·unfold CQ at g
    split at g
    ·rename_i hw; cases g; exact (Dz hw).mono fun p hp=>.inr ⟨_,List.mem_cons_self ..,by rw[hp]; rfl⟩
    ·cases g
  ·cases g
 case mapUpdate=>
  obtain⟨x,y,z,e,g⟩:=Fb h
  subst e
  unfold Dn at g
  split at g
  ·rw[cond_eq_ite] at g
   split at g
   ·cases g
   ·split at g
    ·rename_i hf
     split at g
     ·cases g; exact (Ju hf).mono fun p hp=>.inr ⟨_,List.mem_cons_self ..,by rw[hp]; rfl⟩
     ·cases g; exact (Ju hf).mono fun p hp=>.inr ⟨_,List.mem_cons_self ..,by rw[hp]; rfl⟩
     ·cases g
    ·cases g
  ·cases g
 case mapEntry=>
  obtain⟨x,y,e,g⟩:=BF h
  subst e
  unfold IE at g
  split at g
  ·rw[cond_eq_ite] at g
   split at g
   ·cases g
   ·split at g
    ·rename_i hf
     split at g
     ·split at g
      ·cases g; exact Kept.refl _ _
      ·cases g
     ·cases g; exact (Ju hf).mono fun p hp=>.inr ⟨_,List.mem_cons_self ..,by rw[hp]; rfl⟩
     ·cases g
    ·cases g
  ·cases g
 case entryStore=>
  obtain⟨x,y,z,e,g⟩:=Fb h
  subst e
  unfold Gp at g
  split at g
  ·split at g
   ·rw[cond_eq_ite] at g
    split at g
    ·cases g
    ·split at g
     ·rename_i hf
      split at g
      ·cases g; exact (Ju hf).mono fun p hp=>.inr ⟨_,List.mem_cons_self ..,by rw[hp]; rfl⟩
      ·cases g
     ·cases g
   ·cases g
  ·cases g
 case rangeMap=>
  obtain⟨x,e,g⟩:=Aq h
  subst e
  unfold Iz CQ at g
  split at g
  ·split at g
   ·rename_i hn; cases g; exact (JR hn).mono fun p hp=>.inl (by rw[hp]; rfl)
   ·cases g
  ·split at g
   ·split at g
    ·rename_i hn; cases g; exact (JR hn).mono fun p hp=>.inl (by rw[hp]; rfl)
    ·cases g
   ·cases g
  ·cases g
 case next=>cases h
 case append=>
  obtain⟨x,y,e,g⟩:=BF h
  subst e
  unfold Bi at g
  split at g
  ·cases g
  ·split at g
   ·split at g
    ·refine (KF g).mono fun p hp=>?_
     rcases hp with hp|hp
     ·exact .inl (by rw[hp]; rfl)
     ·exact .inr ⟨_,List.mem_cons_self ..,hp⟩
    ·cases g
   ·cases g
 case Io=>
  obtain⟨x,y,e,g⟩:=BF h
  subst e
  unfold Gb at g
  split at g
  ·refine (KF g).mono fun p hp=>?_
   rcases hp with hp|hp
   ·exact .inl (by rw[hp]; rfl)
   ·exact .inr ⟨_,List.mem_cons_self ..,hp⟩
  ·cases g
 case copy=>
  obtain⟨x,y,e,g⟩:=BF h
  subst e
  unfold KW CQ at g
  split at g
  ·cases g
  ·split at g
   ·split at g
    ·cases g; exact Kept.refl _ _
    ·split at g
     ·rw[cond_eq_ite] at g
      split at g
      ·cases g; exact Kept.refl _ _
      ·split at g
       ·rw[cond_eq_ite] at g
        split at g
        ·split at g
         ·rename_i hw; cases g; exact (Dz hw).mono fun p hp=>.inr ⟨_,List.mem_cons_self ..,by rw[hp]; rfl⟩
         ·cases g
        ·cases g
       ·cases g
     ·cases g
    ·cases g
   ·cases g
 case clear=>
  obtain⟨x,e,g⟩:=Aq h
  subst e
  unfold KX CQ at g
  split at g
  ·cases g; exact Kept.refl _ _
  ·rw[cond_eq_ite] at g
   split at g
   ·cases g; exact Kept.refl _ _
   ·split at g
    ·rw[cond_eq_ite] at g
     split at g
     ·split at g
      ·rename_i hw; cases g; exact (Dz hw).mono fun p hp=>.inr ⟨_,List.mem_cons_self ..,by rw[hp]; rfl⟩
      ·cases g
     ·cases g
    ·cases g
  ·cases g
 case Jl=>
  obtain⟨x,y,e,g⟩:=BF h
  subst e
  unfold GN at g
  split at g
  ·rw[cond_eq_ite] at g
   split at g
   ·split at g <;> cases g <;> exact Kept.refl _ _
   ·split at g
    ·rw[cond_eq_ite] at g
     split at g
     ·cases g
     ·split at g
      ·rw[cond_eq_ite] at g
       split at g
       ·split at g
        ·cases g; exact RZ.mono fun p hp=>.inr ⟨_,List.mem_cons_self ..,by rw[hp]; rfl⟩
        ·cases g
       ·cases g
      ·cases g
    ·cases g
  ·cases g
 case call=>cases h
 case Gi=>cases h
 case invoke=>cases h
end Go.Am
end
section
namespace Go.Am
open Go Go.RowKit
variable {P:Program}
namespace M
variable {α β:Type}
theorem all_bind {m:M α}{f:α->M β}{Q:β->Prop}:(m.bind f).all Q↔m.all fun a=>(f a).all Q:=by
 induction m with
 |ret a=>exact Iff.rfl
 |fail=>exact Iff.rfl
 |ask n k ih=>exact⟨fun h i hi=>(ih i).1 (h i hi),fun h i hi=>(ih i).2 (h i hi)⟩
theorem VM {m:M α}{Q R:α->Prop}(h:m.all Q)(hq:∀a,Q a->R a):m.all R:=by
 induction m with
 |ret a=>exact hq a h
 |fail=>exact h
 |ask n k ih=>exact fun i hi=>ih i (h i hi)
theorem Rq {x:Option α}{Q:α->Prop}(h:(M.Bu x).all Q):∃a,x=some a/\Q a:=by
 cases x with
 |none=>exact h.elim
 |some a=>exact⟨a,rfl,h⟩
end M
structure Nx (I:Cz)(μ:Mu)(st:St)(S:Nat->Prop)(J:Cz)(ν:Mu)(st':St):Prop where
 JM:I.le J
 le:μ.le ν
 same:∀p,p<st.c->¬S p->ν p=μ p
 c:st.c<=st'.c
 lo:st'.lo=st.lo
 kept:∀p,p<st.c->¬S p->μ p=none->AA st'.h p=AA st.h p
theorem Nx.refl (I:Cz)(μ:Mu)(st:St)(S:Nat->Prop):Nx I μ st S I μ st:=
 ⟨Cz.le_refl I,fun _ _ h=>h,fun _ _ _=>rfl,Nat.le_refl _,rfl,fun _ _ _ _=>rfl⟩
theorem Nx.trans {I J K:Cz}{μ ν ξ:Mu}{st st' st2:St}{S T:Nat->Prop}(h:Nx I μ st S J ν st')(k:Nx J ν st' T K ξ st2)(hT:∀p,p<st.c->T p->S p):Nx I μ st S K ξ st2:=
 ⟨Cz.le_trans h.JM k.JM,fun p x hx=>k.le p x (h.le p x hx),
  fun p hp hs=>(k.same p (Nat.lt_of_lt_of_le hp h.c) fun t=>hs (hT p hp t)).trans (h.same p hp hs),
  Nat.le_trans h.c k.c,k.lo.trans h.lo,
  fun p hp hs hn=>(k.kept p (Nat.lt_of_lt_of_le hp h.c) (fun t=>hs (hT p hp t)) ((h.same p hp hs).trans hn)).trans (h.kept p hp hs hn)⟩
theorem Nx.mono {I J:Cz}{μ ν:Mu}{st st':St}{S T:Nat->Prop}(h:Nx I μ st S J ν st')(hT:∀p,p<st.c->S p->T p):Nx I μ st T J ν st':=
 ⟨h.JM,h.le,fun p hp hs=>h.same p hp fun t=>hs (hT p hp t),h.c,h.lo,fun p hp hs=>h.kept p hp fun t=>hs (hT p hp t)⟩
def Dl (GT:Nat->Option AV)(I:Cz):Prop:=∀g u,GT g=some u->(u=.tuple []->∃m,I.cell g 0=some (.int .i64 m))/\(u.isTuple=false->∀μ,Ad I μ u (.pointer (some ⟨g,0,none⟩)))/\∀cs,u=.tuple cs->cs≠[]->∃ty fz rvs,I.map g=some (.cells rvs ty fz)/\∀μ,Ah I μ cs rvs.toList
def Ig (P:Program)(GT:Nat->Option AV)(call:Nat->List AV->St->M (AV × St)):Prop:=
 ∀(f:Nat) (args:List AV) (st:St) (Q:AV × St->Prop),(call f args st).all Q->∀(base:Nat) (w0:Start) (I:Cz) (μ:Mu) (w:World) (rargs:List Value),Ar base w0 I μ st w->st.lo<=st.c->Dl GT I->Ah I μ args rargs ->
  (∀W,(callFunc f rargs.toArray).run P W=.ok (.enter f rargs.toArray) W) /\
  Calls P f rargs.toArray w fun e w'=>∃rv v st' J ν,e=.returned rv/\Q (v,st')/\Ar base w0 J ν st' w'/\Ad J ν v rv/\Nx I μ st (fun _=>False) J ν st'
def WE (P:Program)(E:Env):Prop:=
 ∀t name f,E.bg t name=some f->∀(v:Value) (w:World),(method (P.types.size+Made.depth) t v name).run P w=.ok (f,v) w
def TH (P:Program)(o:Oper)(a:Act)(w:World)(R:Value->World->Prop):Prop:=
 ∀(K:Act->World->Prop) (Q:Exit->Act->World->Prop),(∀rv w',R rv w'->K (a.put o.dst rv) w')->o.wp P a w K Q
section
variable {base:Nat}{w0:Start}{I:Cz}{μ:Mu}{st:St}{w:World}
theorem TH.eY {o:Oper}{a:Act}{v:AV}{st':St}{so:Option Nat}{S:Nat->Prop}(hs:∀p,so=some p->S p)(hkept:Kept st st' fun p=>S p∨∃pl,μ p=some pl)(h:BK P base w0 I μ st w so (execOp a.eval o) v st') :
 TH P o a w fun rv w'=>∃ν,Ar base w0 I ν st' w'/\Ad I ν v rv/\Nx I μ st S I ν st':=by
 intro K Q hK
 obtain⟨n,rv,w',ν,h1,h2,h3⟩:=h
 have hR:∃ν,Ar base w0 I ν st' w'/\Ad I ν v rv/\Nx I μ st S I ν st':=by
  refine⟨ν,h3.rel,h3.val,Cz.le_refl I,h3.le,fun p _ hp=>h3.same p fun e=>hp (hs p e.symm),by rw[h3.c]; exact Nat.le_refl _,h3.lo,fun p _ hp hn=>hkept p fun e=>?_⟩
  rcases e with e|⟨pl,e⟩
  ·exact hp e
  ·rw[hn] at e; cases e
 have:=hK rv w' hR
 unfold Oper.wp
 rw[h1]
 rcases h2 with h2|⟨h2,h4⟩
 ·subst h2; exact this
 ·subst h2 h4; exact this
theorem iQ {s:Nat}{k:AK}{args:List AV}{rargs:List Value}(ha:Ah I μ args rargs){p:Nat}(h:nR s k args p):(Di k).map (s+·)=some p∨∃pl,μ p=some pl:=by
 rcases h with h|⟨x,hx,ht⟩
 ·exact .inl h
 ·obtain⟨i,hi⟩:=List.getElem?_of_mem hx
  obtain⟨rv,_,h2⟩:=ha.get i x hi
  exact .inr (ZQ h2 ht)
theorem YR {args:List AV}{Q:AV × St->Prop}(h:(MS args st).all Q):(MS args st).all fun r=>Q r/\Kept st r.2 fun p=>∃x∈args,x.top=some p:=by
 unfold MS at h ⊢
 split at h
 ·rename_i i
  split at h
  ·rename_i hf; exact⟨h,Kept.refl _ _⟩
  ·rename_i o since seen stepped hf
   rw[cond_eq_ite] at h
   split at h
   ·exact h.elim
   ·rename_i hlo
    simp only[cond_eq_ite,hlo,if_false,Bool.false_eq_true]
    split at h
    ·rename_i ks vs bs clock hf2
     rw[cond_eq_ite] at h
     split at h
     ·exact h.elim
     ·rename_i hc
      simp only[hc,if_false]
      intro j hj
      have hj:=h j hj
      dsimp only at hj ⊢
      revert hj
      generalize (candidates bs since seen)[j]? =c
      intro hj
      unfold SN at hj ⊢
      split at hj
      ·exact⟨hj,Kept.refl _ _⟩
      ·split at hj
       ·split at hj
        ·exact⟨hj,(Ju hf).mono fun p hp=>⟨_,List.mem_cons_self ..,by rw[hp]; rfl⟩⟩
        ·exact hj.elim
       ·exact hj.elim
      ·exact hj.elim
    ·exact h.elim
  ·exact h.elim
 ·exact h.elim
def iE (base:Nat)(w0:Start)(I:Cz)(μ:Mu)(st:St)(S:Nat->Prop)(Q:AV × St->Prop)(rv:Value)(w':World):Prop:=
 ∃v st' J ν,Q (v,st')/\Ar base w0 J ν st' w'/\Ad J ν v rv/\Nx I μ st S J ν st'
theorem dZ {o:Oper}{a:Act}{f:Nat}{rargs:List Value}{R:Value->World->Prop}(he:(execOp a.eval o).run P w=.ok (.enter f rargs.toArray) w)(hc:Calls P f rargs.toArray w fun e w'=>∃rv,e=.returned rv/\R rv w'):TH P o a w R:=by
 intro K Q hK
 unfold Oper.wp
 rw[he,Oper.upon_enter]
 refine Calls.mono hc fun e w' h=>?_
 obtain⟨rv,h1,h2⟩:=h
 subst h1
 exact hK rv w' h2
theorem toArray_map (l:Array Operand)(ρ:Operand->Value):(l.toList.map ρ).toArray=l.map ρ:=by apply Array.ext'; simp
theorem ib {E:Env}{call:Nat->List AV->St->M (AV × St)}{GT:Nat->Option AV}(hcall:Ig P GT call)(hG:Dl GT I){X:Nat->Option Ext}(hX:VT P X)(hM:WE P E)(H:Ar base w0 I μ st w)(hlo:st.lo<=st.c){s:Nat}{k:AK}{o:Oper}{os:List Operand}(hk:Mf P X k o.op=some os){a:Act}{args:List AV}(ha:Ah I μ args (os.map a.eval))(hid:XA s μ st k){Q:AV × St->Prop}(h:(GJ E call s k args st).all Q) :
 TH P o a w (iE base w0 I μ st (fun p=>(Di k).map (s+·)=some p) Q):=by
 have plain:(M.Bu (step s k args st)).all Q->TH P o a w (iE base w0 I μ st (fun p=>(Di k).map (s+·)=some p) Q):=by
  intro h
  obtain⟨⟨v,st'⟩,h1,h2⟩:=M.Rq h
  have hs:=TV H hX hk (fun f=>rfl) ha hid h1
  intro K Q' hK
  refine TH.eY (S:=fun p=>(Di k).map (s+·)=some p) (fun p e=>e) ((Xu h1).mono fun p hp=>iQ ha hp) hs K Q' fun rv w' hr=>hK rv w' ?_
  obtain⟨ν,g1,g2,g3⟩:=hr
  exact⟨v,st',I,ν,h2,g1,g2,g3⟩
 have enter:∀{f:Nat} {l:List AV} {rl:List Value},Ah I μ l rl->(call f l st).all Q->(∀W,(callFunc f rl.toArray).run P W=.ok (.enter f rl.toArray) W->(execOp a.eval o).run P W=.ok (.enter f rl.toArray) W) ->
  TH P o a w (iE base w0 I μ st (fun p=>(Di k).map (s+·)=some p) Q):=by
  intro f l rl hl hq he
  obtain⟨h1,h2⟩:=hcall f l st Q hq base w0 I μ w rl H hlo hG hl
  refine dZ (he w (h1 w)) (Calls.mono h2 fun e w' hr=>?_)
  obtain⟨rv,v,st',J,ν,e1,e2,e3,e4,e5⟩:=hr
  exact⟨rv,e1,v,st',J,ν,e2,e3,e4,e5.mono fun _ _ h=>h.elim⟩
 cases k
 case next=>
  obtain⟨dst,op,type,pos,after,guard⟩:=o
  simp only at hk
  cases op <;> simp only[Mf,Hy,Fu,Dj,FD,FJ,reduceCtorEq] at hk
  case next it isString=>
   obtain⟨h1,h2⟩:=BL hk
   subst h2
   have h1:isString=false:=by simpa using h1
   subst h1
   obtain⟨v,st',⟨q1,q3⟩,q2⟩:=bY (P:=P) (t:=type) H ha _ (YR h)
   have hkept:Kept st st' fun p=>(none:Option Nat)=some p∨∃pl,μ p=some pl:=q3.mono fun p hp=>by
    obtain⟨x,hx,ht⟩:=hp
    obtain⟨i,hi⟩:=List.getElem?_of_mem hx
    obtain⟨rv,_,h2⟩:=ha.get i x hi
    exact .inr (ZQ h2 ht)
   intro K Q' hK
   refine TH.eY (S:=fun p=>(none:Option Nat)=some p) (so:=none) (fun p e=>e) hkept (BK.VU q2) K Q' fun rv w' hr=>hK rv w' ?_
   obtain⟨ν,g1,g2,g3⟩:=hr
   exact⟨v,st',I,ν,q1,g1,g2,g3⟩
  case call c=>
   exfalso
   unfold Ib at hk
   split at hk
   ·have:=(BL hk).1
    unfold Dy at this
    split at this <;> simp at this
   ·simp at hk
   ·simp at hk
 case call f=>
  obtain⟨dst,op,type,pos,after,guard⟩:=o
  simp only at hk
  cases op <;> simp only[Mf,Hy,Fu,Dj,FD,FJ,reduceCtorEq] at hk
  case call c=>
   obtain⟨callee,cargs,ts⟩:=c
   unfold Ib at hk
   split at hk
   ·have:=(BL hk).1
    unfold Dy at this
    split at this <;> simp at this
   ·simp at hk
   ·rename_i g hg
    simp only at hg hk
    subst hg
    split at hk
    ·rename_i g
     obtain⟨h1,h2⟩:=BL hk
     subst h2
     have:=Nat.eq_of_beq_eq_true h1
     subst this
     refine enter ha h fun W hW=>?_
     rw[Rc (show a.eval (.func g)=.func (.func g) #[] #[] from rfl),← toArray_map]
     exact hW
    ·cases hk
 case Gi=>
  obtain⟨dst,op,type,pos,after,guard⟩:=o
  simp only at hk
  cases op <;> simp only[Mf,Hy,Fu,Dj,FD,FJ,reduceCtorEq] at hk
  case call c=>
   obtain⟨callee,cargs,ts⟩:=c
   unfold Ib at hk
   split at hk
   ·have:=(BL hk).1
    unfold Dy at this
    split at this <;> simp at this
   ·simp at hk
   ·rename_i g hg
    simp only at hg hk
    subst hg
    cases hk
    simp only[GJ] at h
    unfold KA at h
    split at h
    ·rename_i f x y l
     rw[List.map_cons] at ha
     cases ha with
     |cons _ rf _ rl hf hl=>
     generalize hrf:a.eval g=rf at hf
     cases hf with
     |fn _ _ _ rx ry hx hy=>
     refine enter (hx.append (hl.append hy)) h fun W hW=>?_
     have e1:execOp a.eval ⟨dst,.call ⟨.value g,cargs,ts⟩,type,pos,after,guard⟩=(do let d ← Deferred.ofValue (a.eval g) (cargs.map a.eval); invoke d.target d.args):=rfl
     rw[e1,hrf]
     have e2:(rx++(cargs.toList.map a.eval++ry)).toArray=rx.toArray++cargs.map a.eval++ry.toArray:=by
      rw[← toArray_map]; simp
     rw[e2] at hW ⊢
     simp only[Deferred.ofValue,Sem.run_bind,Sem.run_pure,Result.andThen_ok,invoke]
     exact hW
    ·exact h.elim
 case invoke name=>
  obtain⟨dst,op,type,pos,after,guard⟩:=o
  simp only at hk
  cases op <;> simp only[Mf,Hy,Fu,Dj,FD,FJ,reduceCtorEq] at hk
  case call c=>
   obtain⟨callee,cargs,ts⟩:=c
   unfold Ib at hk
   split at hk
   ·have:=(BL hk).1
    unfold Dy at this
    split at this <;> simp at this
   ·rename_i r n hr
    simp only at hr hk
    subst hr
    obtain⟨h1,h2⟩:=BL hk
    subst h2
    have h1:name=n:=by simpa using h1
    subst h1
    simp only[GJ] at h
    unfold callMethod at h
    split at h
    ·rename_i t v l
     split at h
     ·rename_i f hf
      rw[List.map_cons] at ha
      cases ha with
      |cons _ rf _ rl hf' hl=>
      generalize hrf:a.eval r=rf at hf'
      cases hf' with
      |iface _ _ rv hv=>
      refine enter (.cons _ _ _ _ hv hl) h fun W hW=>?_
      have e1:execOp a.eval ⟨dst,.call ⟨.invoke r name,cargs,ts⟩,type,pos,after,guard⟩=invoke (.fn (.method name) #[]) (#[a.eval r]++cargs.map a.eval):=rfl
      rw[e1,hrf]
      have e2:(rv::cargs.toList.map a.eval).toArray=#[rv]++cargs.map a.eval:=by
       rw[← toArray_map]; simp
      rw[e2] at hW ⊢
      have hm:=hM t name f hf rv W
      have e3:(#[Value.iface t rv]++cargs.map a.eval)[0]? =some (.iface t rv):=by rw[Array.getElem?_append_left (by simp)]; rfl
      have e4:(#[Value.iface t rv]++cargs.map a.eval).extract 1 (#[Value.iface t rv]++cargs.map a.eval).size=cargs.map a.eval:=by
       generalize cargs.map a.eval=m
       obtain⟨m⟩:=m
       apply Array.ext'
       rw[Array.toList_extract,List.extract_eq_take_drop,Array.toList_append]
       simp[List.take_of_length_le]
      simp only[invoke,e3,e4,Go.callMethod,Sem.run_bind,run_program,Result.andThen_ok,hm,hW]
     ·exact h.elim
    ·exact h.elim
   ·simp at hk
 all_goals exact plain h
end
end Go.Am
end
section
namespace Go.Am
open Go Go.RowKit
variable {P:Program}
 mutual
theorem AV.beq_eq:∀{a b:AV},AV.beq a b=true->a=b
 |.bool a,.bool b,h=>by simp[AV.beq] at h; rw[h]
 |.int k a,.int j b,h=>by simp[AV.beq] at h; rw[h.1,h.2]
 |.str a,.str b,h=>by simp[AV.beq] at h; rw[h]
 |.CG,.CG,_=>rfl
 |.AO o a,.AO p b,h=>by simp[AV.beq] at h; rw[h.1,h.2]
 |.BA a,.BA b,h=>by simp only[AV.beq] at h; rw[AV.Ic h]
 |.AB,.AB,_=>rfl
 |.list t n a,.list u m b,h=>by simp only[AV.beq,Bool.and_eq_true,beq_iff_eq] at h; rw[h.1.1,h.1.2,AV.Ic h.2]
 |.AY o a l c,.AY p b m d,h=>by simp[AV.beq] at h; rw[h.1.1.1,h.1.1.2,h.1.2,h.2]
 |.DY,.DY,_=>rfl
 |.Cr o,.Cr p,h=>by simp[AV.beq] at h; rw[h]
 |.Gq a b,.Gq c d,h=>by simp only[AV.beq,Bool.and_eq_true] at h; rw[AV.Ic h.1,AV.Ic h.2]
 |.fn f a b,.fn g c d,h=>by simp only[AV.beq,Bool.and_eq_true,decide_eq_true_eq] at h; rw[h.1.1,AV.Ic h.1.2,AV.Ic h.2]
 |.IW,.IW,_=>rfl
 |.iface t v,.iface u w,h=>by simp only[AV.beq,Bool.and_eq_true,beq_iff_eq] at h; rw[h.1,AV.beq_eq h.2]
 |.DL,.DL,_=>rfl
 |.agg a,.agg b,h=>by simp only[AV.beq] at h; rw[AV.Ic h]
 |.tuple a,.tuple b,h=>by simp only[AV.beq] at h; rw[AV.Ic h]
theorem AV.Ic:∀{a b:List AV},AV.NW a b=true->a=b
 |[],[],_=>rfl
 |a::x,b::y,h=>by simp only[AV.NW,Bool.and_eq_true] at h; rw[AV.beq_eq h.1,AV.Ic h.2]
end
theorem TS.WS (v:AV):∀(n i j:Nat),i+1<2 ^ n->(TS.single v n i).get j=if i=j then v else .undef:=by
 intro n
 induction n with
 |zero=>intro i j h; omega
 |succ n ih=>
  intro i j h
  have hp:2 ^ (n+1)=2*2 ^ n:=by rw[Nat.pow_succ]; omega
  simp only[TS.single,beq_eq,cond_eq_ite,decide_eq_true_eq]
  by_cases h0:i=0
  ·subst h0
   simp only[if_true,TS.get,beq_eq,cond_eq_ite,decide_eq_true_eq]
   by_cases hj:j=0
   ·simp[hj]
   ·rw[if_neg hj,if_neg (Ne.symm hj)]
    split <;> simp[TS.get]
  ·simp only[h0,if_false]
   by_cases h1:i % 2=1
   ·simp only[h1,if_true,TS.get,beq_eq,cond_eq_ite,decide_eq_true_eq]
    by_cases hj:j=0
    ·subst hj; simp[h0]
    ·rw[if_neg hj]
     by_cases hj1:j % 2=1
     ·rw[if_pos hj1,ih _ _ (by omega)]
      by_cases hij:i=j
      ·subst hij; simp
      ·rw[if_neg hij,if_neg (by omega)]
     ·rw[if_neg hj1,if_neg (by omega)]
   ·simp only[h1,if_false,TS.get,beq_eq,cond_eq_ite,decide_eq_true_eq]
    by_cases hj:j=0
    ·subst hj; simp[h0]
    ·rw[if_neg hj]
     by_cases hj1:j % 2=1
     ·rw[if_pos hj1,if_neg (by omega)]
     ·rw[if_neg hj1,ih _ _ (by omega)]
      by_cases hij:i=j
      ·subst hij; simp
      ·rw[if_neg hij,if_neg (by omega)]
theorem TS.PS (v:AV):∀(t:TS) (i j:Nat),i+1<2 ^ 16->(t.set i v).get j=if i=j then v else t.get j:=by
 intro t
 induction t with
 |nil=>intro i j h; simp only[TS.set]; rw[TS.WS v 16 i j h]; rfl
 |node x l r ihl ihr=>
  intro i j h
  simp only[TS.set,beq_eq,cond_eq_ite,decide_eq_true_eq]
  by_cases h0:i=0
  ·subst h0
   simp only[if_true,TS.get,beq_eq,cond_eq_ite,decide_eq_true_eq]
   by_cases hj:j=0
   ·simp[hj]
   ·rw[if_neg hj,if_neg (Ne.symm hj),if_neg hj]
  ·simp only[h0,if_false]
   by_cases h1:i % 2=1
   ·simp only[h1,if_true,TS.get,beq_eq,cond_eq_ite,decide_eq_true_eq]
    by_cases hj:j=0
    ·subst hj; simp[h0]
    ·rw[if_neg hj,if_neg hj]
     by_cases hj1:j % 2=1
     ·rw[if_pos hj1,if_pos hj1,ihl _ _ (by omega)]
      by_cases hij:i=j
      ·subst hij; simp
      ·rw[if_neg hij,if_neg (by omega)]
     ·rw[if_neg hj1,if_neg hj1,if_neg (by omega)]
   ·simp only[h1,if_false,TS.get,beq_eq,cond_eq_ite,decide_eq_true_eq]
    by_cases hj:j=0
    ·subst hj; simp[h0]
    ·rw[if_neg hj,if_neg hj]
     by_cases hj1:j % 2=1
     ·rw[if_pos hj1,if_pos hj1,if_neg (by omega)]
     ·rw[if_neg hj1,if_neg hj1,ihr _ _ (by omega)]
      by_cases hij:i=j
      ·subst hij; simp
      ·rw[if_neg hij,if_neg (by omega)]
structure JO (N:Nat)(I:Cz)(μ:Mu)(ts:TS)(a:Act):Prop where
 size:N<=a.tmps.size
 small:N<2 ^ 15
 get:∀t,t<N->Ad I μ (ts.get t) (a.eval (.tmp t))
section
variable {N:Nat}{I J:Cz}{μ ν:Mu}{ts:TS}{a:Act}
theorem JO.mono (h:JO N I μ ts a)(hI:I.le J)(hμ:μ.le ν):JO N J ν ts a:=⟨h.size,h.small,fun t ht=>(h.get t ht).mono hI hμ⟩
theorem JO.put (h:JO N I μ ts a){v:AV}{rv:Value}(hv:Ad I μ v rv){d:Option Nat}(hd:∀t,d=some t->t<N):JO N I μ (put ts d v) (a.put d rv):=by
 cases d with
 |none=>exact h
 |some d=>
  have hd:=hd d rfl
  have hsm:=h.small
  refine⟨by simp[Act.put,h.size],h.small,fun t ht=>?_⟩
  show Ad I μ ((ts.set d v).get t) _
  rw[TS.PS _ _ _ _ (by omega)]
  by_cases e:d=t
  ·subst e
   simp only[if_true,Act.eval,Act.put]
   have:(a.tmps.setIfInBounds d rv).getD d undef=rv:=by
    have hsz:=h.size
    have BQ:d<a.tmps.size:=by omega
    simp[Array.getD,BQ]
   rw[this]; exact hv
  ·rw[if_neg e]
   have:=h.get t ht
   simp only[Act.eval,Act.put] at this ⊢
   have e2:(a.tmps.setIfInBounds d rv).getD t undef=a.tmps.getD t undef:=by
    simp[Array.getD_eq_getD_getElem?,Array.getElem?_setIfInBounds_ne e]
   rw[e2]; exact this
def Sw (N:Nat)(GT:Nat->Option AV)(x:Operand)(y:Gx):Bool:=
 match x with
 |.tmp t=>(match y with|.tmp u=>Nat.beq t u&&Nat.blt t N|_=>false)
 |.const c=>(match y with|.val v=>Sv v c|_=>false)
 |.global g=>(match y with|.val v=>(match GT g with|some u=>!u.isTuple&&AV.beq u v|none=>false)|_=>false)
 |.func f=>(match y with|.val (.fn (.func g) [] [])=>Nat.beq f g|_=>false)
theorem Rj (hF:JO N I μ ts a){GT:Nat->Option AV}(hG:Dl GT I){x:Operand}{y:Gx}(h:Sw N GT x y=true):Ad I μ (ev ts y) (a.eval x):=by
 unfold Sw at h
 split at h
 ·split at h
  ·rw[Bool.and_eq_true] at h
   have:=Nat.eq_of_beq_eq_true h.1
   subst this
   have hb:=h.2
   rw[blt_eq] at hb
   exact hF.get _ (by simpa using hb)
  ·cases h
 ·split at h
  ·exact PU h
  ·cases h
 ·split at h
  ·split at h
   ·rename_i u hu
    rw[Bool.and_eq_true,Bool.not_eq_true'] at h
    have:=AV.beq_eq h.2
    subst this
    exact (hG _ _ hu).2.1 h.1 μ
   ·cases h
  ·cases h
 ·split at h
  ·have:=Nat.eq_of_beq_eq_true h
   subst this
   exact .fn _ _ _ [] [] .nil .nil
  ·cases h
def PV (N:Nat)(GT:Nat->Option AV):List Operand->List Gx->Bool
 |[],[]=>true
 |x::l,y::m=>Sw N GT x y&&PV N GT l m
 |_,_=>false
theorem Kc (hF:JO N I μ ts a){GT:Nat->Option AV}(hG:Dl GT I):∀{l:List Operand} {m:List Gx},PV N GT l m=true->Ah I μ (Re ts m) (l.map a.eval)
 |[],[],_=>.nil
 |x::l,y::m,h=>by
  simp only[PV,Bool.and_eq_true] at h
  exact .cons _ _ _ _ (Rj hF hG h.1) (Kc hF hG h.2)
def Qb (N:Nat)(ops:Array Oper)(g h:Option (Nat × Bool)):Bool:=
 match g,h with
 |none,none=>true
 |some (j,b),some (t,c)=>(b==c)&&Nat.blt t N&&(match ops[j]? with|some o=>(match o.dst with|some u=>Nat.beq u t|none=>false)|none=>false)
 |_,_=>false
def cO (b:Bool)(rv:Value):Bool:=match rv with
 |.bool c=>c==b
 |_=>false
theorem YZ {v:AV}{rv:Value}{b:Bool}(h:Ad I μ v rv):isBool b v=cO b rv:=by
 cases h <;> rfl
theorem Ud (hF:JO N I μ ts a){ops:Array Oper}{o:Oper}{g:Option (Nat × Bool)}(h:Qb N ops o.guard g=true):Region.wanted o (yielded ops a.tmps)=wanted g ts:=by
 unfold Qb at h
 unfold Region.wanted
 split at h
 ·rename_i h1; rw[h1]; rfl
 ·rename_i j b t c h1
  simp only[Bool.and_eq_true,beq_iff_eq] at h
  obtain⟨⟨hbc,htN⟩,h3⟩:=h
  subst hbc
  rw[h1]
  have htN:t<N:=by rw[blt_eq] at htN; simpa using htN
  split at h3
  ·rename_i o' ho
   split at h3
   ·rename_i u hu
    have:=Nat.eq_of_beq_eq_true h3
    subst this
    have hv:=hF.get u htN
    have hsz:=hF.size
    have e1:a.tmps[u]? =some (a.eval (.tmp u)):=by
     simp only[Act.eval,Array.getD_eq_getD_getElem?]
     rw[Array.getElem?_eq_getElem (by omega)]; rfl
    simp only[wanted,YZ hv]
    unfold yielded
    rw[ho]
    simp only[Option.bind_some,hu,e1]
    generalize a.eval (.tmp u)=rv
    cases rv <;> first|rfl|(rename_i c; cases c <;> cases b <;> rfl)
   ·cases h3
  ·cases h3
 ·cases h
def QK:AK->Bool
 |.fail=>true
 |_=>false
def Wo (N:Nat)(a b:Option Nat):Bool:=
 match a,b with
 |none,none=>true
 |some x,some y=>Nat.beq x y&&Nat.blt x N
 |_,_=>false
theorem Rk {a b:Option Nat}(h:Wo N a b=true):a=b/\∀t,a=some t->t<N:=by
 unfold Wo at h
 split at h
 ·exact⟨rfl,fun t ht=>by cases ht⟩
 ·rw[Bool.and_eq_true,blt_eq] at h
  have:=Nat.eq_of_beq_eq_true h.1
  subst this
  exact⟨rfl,fun t ht=>by cases ht; simpa using h.2⟩
 ·cases h
def IJ (P:Program)(X:Nat->Option Ext)(N:Nat)(GT:Nat->Option AV)(ops:Array Oper)(o:Oper)(ao:CV):Bool:=
 Wo N o.dst ao.dst&&Qb N ops o.guard ao.guard&&(QK ao.k||match Mf P X ao.k o.op with
  |some os=>PV N GT os ao.args
  |none=>false)
end
end Go.Am
end
section
namespace Go.Am
open Go Go.RowKit
variable {P:Program}
def ah (P:Program)(ops:Array Oper)(o:Oper)(a:Act)(w:World)(R:Act->World->Prop):Prop:=
 ∀(K:Act->World->Prop) (Q:Exit->Act->World->Prop),(∀a' w',R a' w'->K a' w') ->
  (if Region.wanted o (yielded ops a.tmps) then o.wp P a w K Q∨(o.asks P a w/\LetsOut Q) else K (a.put o.dst undef) w)
def At (base:Nat)(w0:Start)(N:Nat)(I:Cz)(μ:Mu)(st:St)(S:Nat->Prop)(Q:TS × St->Prop)(a:Act)(a':Act)(w':World):Prop:=
 ∃ts' st' J ν,Q (ts',st')/\Ar base w0 J ν st' w'/\JO N J ν ts' a'/\Nx I μ st S J ν st'/\a'.defers=a.defers
theorem put_defers (a:Act)(d:Option Nat)(v:Value):(a.put d v).defers=a.defers:=by cases d <;> rfl
structure Ov (P:Program) where
 E:Env
 X:Nat->Option Ext
 GT:Nat->Option AV
 ext:VT P X
 bg:WE P E
section
variable {G:Ov P}{base:Nat}{w0:Start}{I:Cz}{μ:Mu}{st:St}{w:World}{N:Nat}{ts:TS}{a:Act}
theorem WR {E:Env}{call:Nat->List AV->St->M (AV × St)}{s:Nat}{k:AK}{args:List AV}{Q:AV × St->Prop}(hf:QK k=true)(h:(GJ E call s k args st).all Q):False:=by
 cases k <;> simp[QK] at hf
 exact h
theorem Xc {call:Nat->List AV->St->M (AV × St)}(hcall:Ig P G.GT call)(H:Ar base w0 I μ st w)(hlo:st.lo<=st.c)(hF:JO N I μ ts a)(hG:Dl G.GT I){ops:Array Oper}{o:Oper}{ao:CV}(hc:IJ P G.X N G.GT ops o ao=true){s:Nat}(hid:XA s μ st ao.k){Q:TS × St->Prop}(h:(KG G.E call s ao ts st).all Q) :
 ah P ops o a w (At base w0 N I μ st (fun p=>(Di ao.k).map (s+·)=some p) Q a):=by
 simp only[IJ,Bool.and_eq_true,Bool.or_eq_true] at hc
 obtain⟨⟨hd,hg⟩,hk⟩:=hc
 obtain⟨hd1,hd2⟩:=Rk hd
 have hw:=Ud hF hg
 intro K Q' hK
 rw[hw]
 unfold KG at h
 rw[cond_eq_ite] at h
 by_cases hwant:wanted ao.guard ts=true
 ·rw[if_pos hwant] at h ⊢
  refine .inl ?_
  rw[M.all_bind] at h
  rcases hk with hk|hk
  ·exact (WR hk h).elim
  ·split at hk
   ·rename_i os hos
    have ha:=Kc hF hG hk
    refine ib hcall hG G.ext G.bg H hlo hos ha hid h K Q' fun rv w' hr=>hK _ _ ?_
    obtain⟨v,st',J,ν,h1,h2,h3,h4⟩:=hr
    refine⟨put ts ao.dst v,st',J,ν,h1,h2,?_,h4,put_defers _ _ _⟩
    rw[← hd1]
    exact (hF.mono h4.JM h4.le).put h3 hd2
   ·cases hk
 ·rw[if_neg hwant] at h ⊢
  refine hK _ _ ⟨put ts ao.dst .undef,st,I,μ,h,H,?_,Nx.refl _ _ _ _,put_defers _ _ _⟩
  rw[← hd1]
  exact hF.put (.tuple [] [] .nil) hd2
def JE (P:Program)(X:Nat->Option Ext)(N:Nat)(GT:Nat->Option AV)(ops:Array Oper):List Oper->List CV->Bool
 |[],[]=>true
 |o::l,ao::m=>IJ P X N GT ops o ao&&JE P X N GT ops l m
 |_,_=>false
def HY (l:List CV):List Nat:=l.filterMap fun o=>Di o.k
def Uc (na:Nat):List Nat->Bool
 |[]=>true
 |i::l=>Nat.blt i na&&!l.any (Nat.beq i)&&Uc na l
theorem RY {na i:Nat}{l:List Nat}(h:Uc na (i::l)=true):i<na/\i∉l/\Uc na l=true:=by
 simp only[Uc,Bool.and_eq_true,Bool.not_eq_true',blt_eq,decide_eq_true_eq,List.any_eq_false] at h
 exact⟨h.1.1,fun hm=>h.1.2 i hm (by simp),h.2⟩
theorem Ub {na i:Nat}{l:List Nat}(h:Uc na l=true)(hm:i∈l):i<na:=by
 induction l with
 |nil=>cases hm
 |cons j l ih=>
  obtain⟨h1,h2,h3⟩:=RY h
  rcases List.mem_cons.1 hm with e|e
  ·subst e; exact h1
  ·exact ih h3 e
theorem At.mono {S T:Nat->Prop}{Q:TS × St->Prop}{a':Act}{w':World}(hT:∀p,p<st.c->S p->T p)(h:At base w0 N I μ st S Q a a' w'):At base w0 N I μ st T Q a a' w':=by
 obtain⟨ts',st',J,ν,h1,h2,h3,h4,h5⟩:=h
 exact⟨ts',st',J,ν,h1,h2,h3,h4.mono hT,h5⟩
theorem Dl.mono {GT:Nat->Option AV}{J:Cz}(h:Dl GT I)(hI:I.le J):Dl GT J:=fun g u hu=>⟨fun ht=>((h g u hu).1 ht).imp fun _ hm=>hI.1 _ _ _ hm,fun ht μ=>((h g u hu).2.1 ht μ).mono hI (fun _ _ h=>h),fun cs hc hne=>(by obtain⟨ty,fz,rvs,h1,h2⟩:=(h g u hu).2.2 cs hc hne; exact⟨ty,fz,rvs,hI.2 _ _ h1,fun μ=>(h2 μ).mono hI (fun _ _ h=>h)⟩)⟩
theorem dn {call:Nat->List AV->St->M (AV × St)}(hcall:Ig P G.GT call){ops:Array Oper}{s na:Nat}{Qx:Exit->Act->World->Prop}:∀(l:List CV) (os:List Oper) (i:Nat) (st:St) (ts:TS) (a:Act) (w:World) (I:Cz) (μ:Mu) (Q:TS × St->Prop),
 ops.toList.drop i=os->JE P G.X N G.GT ops os l=true->Ar base w0 I μ st w->st.lo<=s->s+na<=st.c->JO N I μ ts a->Dl G.GT I->Uc na (HY l)=true->(∀id∈HY l,μ (s+id)=none)->(Gl G.E call s l ts st).all Q ->
 (∀a' w',At base w0 N I μ st (s<=·) Q a a' w'->Qx .normal a' w')->wpOps P ops Qx (List.range' i os.length) a w:=by
 intro l
 induction l with
 |nil=>
  intro os i st ts a w I μ Q hos hc H hlo hna hF hG hids hfree h hQ
  cases os with
  |nil=>
   show Qx .normal a w
   exact hQ a w ⟨ts,st,I,μ,h,H,hF,Nx.refl _ _ _ _,rfl⟩
  |cons o os=>simp[JE] at hc
 |cons ao l ih=>
  intro os i st ts a w I μ Q hos hc H hlo hna hF hG hids hfree h hQ
  cases os with
  |nil=>simp[JE] at hc
  |cons o os=>
   simp only[JE,Bool.and_eq_true] at hc
   have hoi:ops[i]? =some o:=by
    rw[← Array.getElem?_toList]
    exact (getElem?_of_drop hos).1
   have hos':=(getElem?_of_drop hos).2
   rw[List.length_cons,List.range'_succ]
   simp only[wpOps,hoi]
   have hid:XA s μ st ao.k:=by
    intro id hid
    have hm:id∈HY (ao::l):=by simp[HY,hid]
    have:=Ub hids hm
    exact⟨hfree id hm,by omega,by omega⟩
   have hids':Uc na (HY l)=true/\∀id,Di ao.k=some id->id∉HY l:=by
    cases hk:Di ao.k with
    |none=>
     have:HY (ao::l)=HY l:=by simp[HY,hk]
     rw[this] at hids
     exact⟨hids,fun id h=>by cases h⟩
    |some id0=>
     have:HY (ao::l)=id0::HY l:=by simp[HY,hk]
     rw[this] at hids
     obtain⟨h1,h2,h3⟩:=RY hids
     exact⟨h3,fun id h=>by cases h; exact h2⟩
   have hsub:∀id∈HY l,id∈HY (ao::l):=fun id hm=>by
    cases hk:Di ao.k with
    |none=>simpa [HY,hk] using hm
    |some id0=>simp[HY,hk]; right; simpa [HY] using hm
   rw[Gl,M.all_bind] at h
   refine Xc hcall H (by omega) hF hG hc.1 hid h _ _ fun a' w' hr=>?_
   obtain⟨ts',st',J,ν,h1,h2,h3,h4,h5⟩:=hr
   refine ih os (i+1) st' ts' a' w' J ν Q hos' hc.2 h2 (by rw[h4.lo]; exact hlo) (Nat.le_trans hna h4.c) h3 (hG.mono h4.JM) hids'.1 (fun id hm=>?_) h1 fun a2 w2 hr=>hQ a2 w2 ?_
   ·have BQ:=Ub hids (hsub id hm)
    rw[h4.same (s+id) (by omega) fun e=>?_]
    ·exact hfree id (hsub id hm)
    ·obtain⟨id0,g1,g2⟩:=Option.map_eq_some_iff.1 e
     have:id0=id:=by omega
     subst this
     exact hids'.2 id0 g1 hm
   ·obtain⟨ts2,st2,K,ξ,g1,g2,g3,g4,g5⟩:=hr
    refine⟨ts2,st2,K,ξ,g1,g2,g3,?_,g5.trans h5⟩
    refine (h4.mono (T:=(s<=·)) fun p _ e=>?_).trans g4 fun p _ h=>h
    obtain⟨id0,_,q⟩:=Option.map_eq_some_iff.1 e
    show s<=p
    omega
def OI (P:Program)(X:Nat->Option Ext)(N:Nat)(GT:Nat->Option AV)(ops:Array Oper)(na:Nat)(l:List CV):Bool:=
 JE P X N GT ops ops.toList l&&Uc na (HY l)
theorem YH {call:Nat->List AV->St->M (AV × St)}(hcall:Ig P G.GT call){ops:Array Oper}{na:Nat}{l:List CV}(hc:OI P G.X N G.GT ops na l=true)(H:Ar base w0 I μ st w)(hlo:st.lo<=st.c)(hF:JO N I μ ts a)(hG:Dl G.GT I){Q:TS × St->Prop}(h:(Gl G.E call st.c l ts { st with c:=st.c+na }).all Q){Qx:Exit->Act->World->Prop}(hQ:∀a' w',At base w0 N I μ st (fun _=>False) Q a a' w'->Qx .normal a' w')(id:Nat):(Code.region id ops false).wp P Qx a w:=by
 simp only[OI,Bool.and_eq_true] at hc
 refine wp_region ?_
 have hr:List.range ops.size=List.range' 0 ops.toList.length:=by rw[List.range_eq_range']; simp
 rw[hr]
 have H':Ar base w0 I μ { st with c:=st.c+na } w:=H.more (Nat.le_add_right _ _)
 refine dn (G:=G) (N:=N) (s:=st.c) (na:=na) hcall l ops.toList 0 _ ts a w I μ Q rfl hc.1 H' hlo (Nat.le_refl _) hF hG hc.2 (fun id _=>H.Ur _ (Nat.le_add_right _ _)) h fun a' w' hr=>hQ a' w' ?_
 obtain⟨ts',st',J,ν,h1,h2,h3,h4,h5⟩:=hr
 refine⟨ts',st',J,ν,h1,h2,h3,⟨h4.JM,h4.le,fun p hp _=>h4.same p (Nat.lt_of_lt_of_le hp (Nat.le_add_right _ _)) (by show ¬st.c<=p; omega),Nat.le_trans (Nat.le_add_right _ _) h4.c,h4.lo,
  fun p hp _ hn=>h4.kept p (Nat.lt_of_lt_of_le hp (Nat.le_add_right _ _)) (by show ¬st.c<=p; omega) hn⟩,h5⟩
end
end Go.Am
end
section
namespace Go.Am
open Go Go.RowKit
def LC:AK->Bool
 |.move|.pick|.build ..|.nilCheck|.bin _|.eq ..|.OE ..|.un _|.BV _|.IG|.CU _|.KY ..|.CF ..|.fieldAddr _|.field ..|.FX ..|.Bn|.extract _|.len .str|.len .slice|.cap|.min|.max|.Kr|.ext _=>true
 |_=>false
def aj (st st2:St):Prop:=∀p x,AA st.h p=some x->AA st2.h p=some x
section
variable {s:Nat}{k:AK}{args:List AV}{st st' st2:St}{v:AV}
theorem Gt {x:Option AV}(h:DX st x=some (v,st')):DX st2 x=some (v,st2):=by
 unfold DX at h ⊢
 split at h
 ·cases h; rfl
 ·cases h
theorem CW {f g:AV->R}(h:FH args f=some (v,st'))(hf:∀x,f x=some (v,st')->g x=some (v,st2)):FH args g=some (v,st2):=by
 obtain⟨x,rfl,h⟩:=Aq h
 exact hf x h
theorem Fx {f g:AV->AV->R}(h:Fy args f=some (v,st'))(hf:∀x y,f x y=some (v,st')->g x y=some (v,st2)):Fy args g=some (v,st2):=by
 obtain⟨x,y,rfl,h⟩:=BF h
 exact hf x y h
theorem Yw {f g:AV->AV->AV->R}(h:Qe args f=some (v,st'))(hf:∀x y z,f x y z=some (v,st')->g x y z=some (v,st2)):Qe args g=some (v,st2):=by
 obtain⟨x,y,z,rfl,h⟩:=Fb h
 exact hf x y z h
theorem QR (hk:LC k=true)(h:step s k args st=some (v,st')):step s k args st2=some (v,st2):=by
 cases k <;> simp only[LC,Bool.false_eq_true] at hk <;> simp only[step] at h ⊢
 case move=>exact CW h fun x g=>by cases g; rfl
 case pick=>exact Yw h fun x y z g=>by unfold Kz at g ⊢; split at g <;> cases g; rfl
 case build=>exact Gt h
 case nilCheck=>exact CW h fun x g=>by unfold CP at g ⊢; split at g <;> cases g <;> rfl
 case bin=>exact Fx h fun x y g=>Gt g
 case eq=>exact Fx h fun x y g=>Gt g
 case OE=>
  refine Fx h fun x y g=>?_
  unfold Px at g ⊢
  split at g
  ·split at g <;> cases g; rfl
  ·split at g
   ·cases g; rfl
   ·rw[cond_eq_ite] at g ⊢
    split at g
    ·rename_i hc
     rw[if_pos hc]
     split at g
     ·split at g <;> cases g; rfl
     ·cases g
    ·rename_i hc
     rw[if_neg hc]
     cases g; rfl
   ·cases g
  ·cases g
 case un=>exact CW h fun x g=>Gt g
 case BV=>exact CW h fun x g=>by unfold Hm at g ⊢; split at g <;> cases g; rfl
 case IG=>
  exact CW h fun x g=>by
   unfold Ga at g ⊢
   split at g
   ·cases g; rfl
   ·split at g
    ·rename_i hn; cases g; simp only[hn,if_true]
    ·cases g
   ·cases g
 case CU=>exact CW h fun x g=>by cases g; rfl
 case KY=>cases h; rfl
 case CF=>
  unfold Bp at h ⊢
  split at h
  ·split at h
   ·split at h
    ·rw[cond_eq_ite] at h ⊢
     split at h
     ·rename_i hc; rw[if_pos hc]; cases h; rfl
     ·cases h
    ·cases h
   ·cases h
  ·cases h
 case fieldAddr=>exact CW h fun x g=>by unfold DI at g ⊢; split at g <;> cases g <;> rfl
 case field=>
  refine CW h fun x g=>?_
  unfold La at g ⊢
  split at g
  ·split at g
   ·rw[cond_eq_ite] at g ⊢
    split at g
    ·rename_i hc; rw[if_pos hc]; cases g; rfl
    ·cases g
   ·exact Gt g
  ·cases g
 case FX=>
  refine Fx h fun x y g=>?_
  unfold Hl at g ⊢
  split at g
  ·rw[cond_eq_ite] at g ⊢
   split at g
   ·rename_i hc
    rw[if_pos hc]
    split at g <;> cases g <;> rfl
   ·cases g
  ·cases g
 case Bn=>
  refine Fx h fun x y g=>?_
  unfold Bq at g ⊢
  split at g
  ·split at g
   ·split at g <;> cases g; rfl
   ·cases g
  ·cases g
 case extract=>
  refine CW h fun x g=>?_
  unfold GZ at g ⊢
  split at g
  ·exact Gt g
  ·cases g
 case len lk=>
  refine CW h fun x g=>?_
  unfold BX at g ⊢
  cases lk with
  |str=>simp only at g ⊢; split at g <;> cases g; rfl
  |slice=>simp only at g ⊢; split at g <;> cases g; rfl
  |map=>cases hk
 case cap=>exact CW h fun x g=>by unfold Lt at g ⊢; split at g <;> cases g <;> rfl
 case min=>
  unfold OY at h ⊢
  split at h
  ·exact Gt h
  ·cases h
 case max=>
  unfold OZ at h ⊢
  split at h
  ·exact Gt h
  ·cases h
 case Kr=>
  refine CW h fun x g=>?_
  unfold GD at g ⊢
  split at g
  ·cases g; rfl
  ·rw[cond_eq_ite] at g ⊢
   split at g
   ·rename_i hc; rw[if_pos hc]; cases g; rfl
   ·cases g
  ·cases g
 case ext e=>
  cases e with
  |same=>exact CW (f:=fun x=>some (x,st)) (g:=fun x=>some (x,st2)) h fun x g=>by cases g; rfl
  |indexByte=>
   refine Fx (f:=fun x y=>DW x y st) (g:=fun x y=>DW x y st2) h fun x y g=>?_
   unfold DW at g ⊢
   split at g
   ·split at g <;> cases g; rfl
   ·cases g
  |compare=>
   refine Fx (f:=fun x y=>Ij x y st) (g:=fun x y=>Ij x y st2) h fun x y g=>?_
   unfold Ij at g ⊢
   split at g
   ·split at g <;> cases g; rfl
   ·cases g
theorem Ox (hm:aj st st2){sz n:Nat}{x:AV}{cs:List AV}(h:Al st.h sz n x=some cs):Al st2.h sz n x=some cs:=by
 unfold Al at h ⊢
 split at h
 ·exact h
 ·exact h
 ·split at h
  ·rename_i hf
   rw[hm _ _ hf]; exact h
  ·cases h
 ·cases h
theorem Vs (hm:aj st st2)(hk:Dv k=true)(h:step s k args st=some (v,st')):step s k args st2=some (v,st2):=by
 cases hfr:LC k with
 |true=>exact QR hfr h
 |false=>
 cases k <;> simp only[LC,Dv,reduceCtorEq,Bool.false_eq_true,Bool.true_eq_false] at hk hfr <;> simp only[step] at h ⊢
 case load agg=>
  refine CW h fun x g=>?_
  have key:∀u,GR st.h agg x=some u->GR st2.h agg x=some u:=by
   intro u hu
   unfold GR at hu ⊢
   split at hu
   ·obtain⟨cs,h1,h2⟩:=Option.map_eq_some_iff.1 hu
    subst h2
    rw[Option.map_eq_some_iff]
    refine⟨cs,?_,rfl⟩
    unfold Ac at h1 ⊢
    split at h1
    ·split at h1
     ·rename_i hf; rw[hm _ _ hf]; exact h1
     ·cases h1
    ·exact h1
    ·cases h1
   ·unfold AQ at hu ⊢
    split at hu
    ·split at hu
     ·rename_i hf; rw[hm _ _ hf]; exact hu
     ·cases hu
    ·exact hu
    ·cases hu
  unfold DX at g ⊢
  split at g
  ·rename_i u hu
   cases g
   rw[key _ hu]
  ·cases g
 case JW=>
  refine CW h fun x g=>?_
  unfold Ii at g ⊢
  split at g
  ·cases g
  ·split at g
   ·split at g
    ·rename_i hc
     rw[Ox hm hc]
     exact Gt g
    ·cases g
   ·cases g
 case slice sz lo hi mx=>
  unfold Bc at h ⊢
  split at h
  ·rename_i x l
   split at h
   ·split at h
    ·split at h
     ·have key:∀{a b c u},Cv sz x a b c st.h=some u->Cv sz x a b c st2.h=some u:=by
       intro a b c u hu
       unfold Cv at hu ⊢
       split at hu
       ·exact hu
       ·exact hu
       ·split at hu
        ·rename_i hf; rw[hm _ _ hf]; exact hu
        ·cases hu
       ·cases hu
      unfold DX at h ⊢
      split at h
      ·rename_i u hu
       cases h
       rw[key hu]
      ·cases h
     ·cases h
    ·cases h
   ·cases h
  ·cases h
 case Jm=>
  unfold Hf at h ⊢
  split at h
  ·split at h
   ·split at h
    ·split at h
     ·rename_i hf
      rw[hm _ _ hf]
      simp only[cond_eq_ite] at h ⊢
      split at h
      ·rename_i hc; rw[if_pos hc]; cases h; rfl
      ·cases h
     ·cases h
    ·cases h
   ·cases h
  ·cases h
 case indexAddr=>
  refine Fx h fun x y g=>?_
  unfold AU at g ⊢
  split at g
  ·split at g
   ·rw[cond_eq_ite] at g ⊢
    split at g
    ·rename_i hc
     rw[if_pos hc]
     split at g <;> cases g; rfl
    ·cases g
   ·split at g
    ·rename_i hf
     rw[hm _ _ hf]
     simp only[cond_eq_ite] at g ⊢
     split at g
     ·rename_i hc; rw[if_pos hc]; cases g; rfl
     ·cases g
    ·cases g
   ·cases g
  ·cases g
 case lookup kk zero ok=>
  refine Fx h fun x y g=>?_
  have key:∀{ks vs:List AV} {k:AV},IV kk zero ok ks vs k st=some (v,st')->IV kk zero ok ks vs k st2=some (v,st2):=by
   intro ks vs k q
   unfold IV JV at q ⊢
   rw[cond_eq_ite] at q ⊢
   split at q
   ·rename_i hc
    rw[if_pos hc]
    split at q
    ·cases q; rfl
    ·split at q <;> cases q; rfl
    ·cases q
   ·cases q
  unfold Gn at g ⊢
  split at g
  ·exact key g
  ·split at g
   ·rename_i hf; rw[hm _ _ hf]; exact key g
   ·cases g
  ·exact key g
  ·cases g
 case entry=>
  refine CW h fun x g=>?_
  unfold Lb at g ⊢
  split at g
  ·split at g
   ·rename_i hf
    rw[hm _ _ hf]
    simp only
    split at g
    ·rename_i hf2
     rw[hm _ _ hf2]
     simp only[cond_eq_ite] at g ⊢
     split at g
     ·rename_i hc
      rw[if_pos hc]
      split at g
      ·split at g
       ·split at g <;> cases g; rfl
       ·cases g
      ·cases g
     ·cases g
    ·cases g
   ·cases g
  ·cases g
 case len lk=>
  refine CW h fun x g=>?_
  unfold BX at g ⊢
  cases lk with
  |str=>cases hfr
  |slice=>cases hfr
  |map=>
   simp only at g ⊢
   have key:∀n,QC st.h x=some n->QC st2.h x=some n:=by
    intro n hn
    unfold QC at hn ⊢
    split at hn
    ·exact hn
    ·split at hn
     ·rename_i hf; rw[hm _ _ hf]; exact hn
     ·cases hn
    ·exact hn
    ·cases hn
   split at g
   ·rename_i n hn
    cases g
    rw[key _ hn]
   ·cases g
 case Mr=>
  refine CW h fun x g=>?_
  unfold JQ at g ⊢
  split at g
  ·cases g; rfl
  ·split at g
   ·rename_i hf
    rw[hm _ _ hf]
    simp only[cond_eq_ite] at g ⊢
    split at g
    ·rename_i hc; rw[if_pos hc]; cases g; rfl
    ·cases g
   ·cases g
  ·cases g
end
end Go.Am
end
section
namespace Go.Am
open Go Go.RowKit
variable {P:Program}
inductive Xm (ops:Array Oper):Nat->Nat->Prop
 |dO (i:Nat) (o:Oper) (d:Edge) (ho:ops[i]? =some o) (hd:d∈o.after) (hb:Region.binds .any d=true):Xm ops d.on i
 |more (j i:Nat) (o:Oper) (d:Edge) (ho:ops[i]? =some o) (hd:d∈o.after) (hb:Region.binds .any d=true) (h:Xm ops j d.on):Xm ops j i
def eQ:Gx->Option Nat
 |.tmp t=>some t
 |.val _=>none
def MW (o:CV):List Nat:=o.args.filterMap eQ++(match o.guard with|some (t,_)=>[t]|none=>[])
def TJ (x y:CV):Prop:=(∀d,x.dst=some d->d∉MW y/\y.dst≠some d)/\(∀d,y.dst=some d->d∉MW x)
abbrev Ng:=Nat × CV × List Nat
def LD (k:AK):Bool:=!(Dv k||DC k)
structure Gw (ops:Array Oper)(f e:Ng):Prop where
 dO:∀o,ops[f.1]? =some o->∀d∈o.after,Region.binds .any d=true->d.on≠e.1
 apart:TJ f.2.1 e.2.1∨Xm ops f.1 e.1
 nU:LD f.2.1.k=true->Xm ops f.1 e.1
 load:LD e.2.1.k=true->LC f.2.1.k=true∨DC f.2.1.k=true∨Xm ops f.1 e.1∨(e.1∈f.2.2/\f.2.1.dst.isSome=true)
 ids:∀id,Di f.2.1.k=some id->Di e.2.1.k≠some id
structure XB (P:Program)(X:Nat->Option Ext)(N:Nat)(GT:Nat->Option AV)(ops:Array Oper)(na:Nat)(L:List Ng):Prop where
 nodup:(L.map (·.1)).Nodup
 all:∀j,j<ops.size->j∈L.map (·.1)
 elem:∀e∈L,∃o,ops[e.1]? =some o/\IJ P X N GT ops o e.2.1=true/\(∀d∈o.after,Region.binds .any d=true->d.on<ops.size/\d.on≠e.1)/\(∀id,Di e.2.1.k=some id->id<na)
 pair:L.Pairwise (Gw ops)
abbrev Sl:=Nat->AV
def Ow (g:Sl)(d:Option Nat)(v:AV):Sl:=match d with
 |some d=>fun j=>if d=j then v else g j
 |none=>g
def XO (g:Sl):Gx->AV
 |.tmp t=>g t
 |.val v=>v
def Fg (h:Option (Nat × Bool))(g:Sl):Bool:=match h with
 |none=>true
 |some (t,b)=>isBool b (g t)
theorem OH (ts:TS)(l:List Gx):Re ts l=l.map (XO ts.get):=by
 induction l with
 |nil=>rfl
 |cons o l ih=>simp only[Re,List.map_cons,ih]; cases o <;> rfl
theorem Jk (h:Option (Nat × Bool))(ts:TS):wanted h ts=Fg h ts.get:=by cases h <;> rfl
theorem put_eq {N:Nat}(hN:N<2 ^ 15)(ts:TS){d:Option Nat}(hd:∀t,d=some t->t<N)(v:AV):(put ts d v).get=Ow ts.get d v:=by
 cases d with
 |none=>rfl
 |some d=>
  funext j
  show (ts.set d v).get j=_
  have:=hd d rfl
  rw[TS.PS _ _ _ _ (by omega)]; rfl
theorem dI {g:Sl}{d:Option Nat}{v:AV}{l:List Gx}(h:∀x,d=some x->x∉l.filterMap eQ):l.map (XO (Ow g d v))=l.map (XO g):=by
 apply List.map_congr_left
 intro o ho
 cases o with
 |val v=>rfl
 |tmp t=>
  cases d with
  |none=>rfl
  |some d=>
   have:d≠t:=fun e=>h d rfl (by subst e; exact List.mem_filterMap.2 ⟨_,ho,rfl⟩)
   simp[XO,Ow,this]
theorem TM {g:Sl}{d:Option Nat}{v:AV}{h:Option (Nat × Bool)}(hd:∀x b,d=some x->h≠some (x,b)):Fg h (Ow g d v)=Fg h g:=by
 cases h with
 |none=>rfl
 |some p=>
  obtain⟨t,b⟩:=p
  cases d with
  |none=>rfl
  |some d=>
   have:d≠t:=fun e=>hd d b rfl (by rw[e])
   simp[Fg,Ow,this]
theorem RX {g:Sl}{d:Option Nat}{v:AV}{o:CV}(h:∀x,d=some x->x∉MW o):o.args.map (XO (Ow g d v))=o.args.map (XO g)/\Fg o.guard (Ow g d v)=Fg o.guard g:=by
 refine⟨dI fun x hx hm=>h x hx (List.mem_append_left _ hm),TM fun x b hx hg=>h x hx (List.mem_append_right _ ?_)⟩
 rw[hg]; simp
theorem ZP {g:Sl}{d e:Option Nat}{v u:AV}(h:∀x,d=some x->e≠some x):Ow (Ow g d v) e u=Ow (Ow g e u) d v:=by
 cases d with
 |none=>rfl
 |some d=>
  cases e with
  |none=>rfl
  |some e=>
   have hne:e≠d:=fun q=>h d rfl (by rw[q])
   funext j
   simp only[Ow]
   by_cases h1:e=j
   ·subst h1; simp[Ne.symm hne]
   ·simp[h1]
def chain (g:Sl):List (Ng × AV)->Sl
 |[]=>g
 |(e,v)::l=>chain (Ow g e.2.1.dst v) l
theorem Ke (g:Sl)(l m:List (Ng × AV)):chain g (l++m)=chain (chain g l) m:=by
 induction l generalizing g with
 |nil=>rfl
 |cons x l ih=>exact ih _
def Told (s:Nat)(st:St)(μ:Mu)(p:Ko)(g:Sl)(e:Ng)(v:AV):Prop:=
 (Fg e.2.1.guard g=false/\v=.undef)∨(Fg e.2.1.guard g=true /\
  ((Dv e.2.1.k=true/\step s e.2.1.k (e.2.1.args.map (XO g)) st=some (v,st)/\(LC e.2.1.k=true∨e.2.2=[]∨e.2.1.dst.isSome=false∨(e.2.2,e.2.1.k,e.2.1.args.map (XO g),v)∈p)) ∨
   (DC e.2.1.k=true/\∃id ob,Di e.2.1.k=some id/\born s e.2.1.k (e.2.1.args.map (XO g))=some (v,ob)/\AA st.h (s+id)=some ob/\μ (s+id)=none)))
def Gj (s:Nat)(st:St)(μ:Mu)(p:Ko):Sl->List (Ng × AV)->Prop
 |_,[]=>True
 |g,(e,v)::l=>LD e.2.1.k=false/\Told s st μ p g e v/\Gj s st μ p (Ow g e.2.1.dst v) l
section
variable {s:Nat}{st st':St}{μ ν:Mu}{p p':Ko}
theorem Gj.append {g:Sl}{l m:List (Ng × AV)}:Gj s st μ p g (l++m)↔Gj s st μ p g l/\Gj s st μ p (chain g l) m:=by
 induction l generalizing g with
 |nil=>simp[Gj,chain]
 |cons x l ih=>
  obtain⟨e,v⟩:=x
  simp only[List.cons_append,Gj,chain,ih,and_assoc]
theorem Gj.map {g:Sl}{l:List (Ng × AV)}(h:Gj s st μ p g l)(ht:∀e v,(e,v)∈l->∀g,Told s st μ p g e v->Told s st' ν p' g e v):Gj s st' ν p' g l:=by
 induction l generalizing g with
 |nil=>trivial
 |cons x l ih=>
  obtain⟨e,v⟩:=x
  exact⟨h.1,ht e v (List.mem_cons_self ..) g h.2.1,ih h.2.2 fun e v hm=>ht e v (List.mem_cons_of_mem _ hm)⟩
theorem Gj.Ow {g:Sl}{l:List (Ng × AV)}{d:Option Nat}{u:AV}(h:Gj s st μ p g l)(hd:∀e v,(e,v)∈l->∀x,d=some x->x∉MW e.2.1/\e.2.1.dst≠some x) :
 Gj s st μ p (Am.Ow g d u) l/\chain (Am.Ow g d u) l=Am.Ow (chain g l) d u:=by
 induction l generalizing g with
 |nil=>exact⟨trivial,rfl⟩
 |cons x l ih=>
  obtain⟨e,v⟩:=x
  have he:=hd e v (List.mem_cons_self ..)
  obtain⟨h1,h2⟩:=RX (g:=g) (v:=u) (o:=e.2.1) fun x hx=>(he x hx).1
  have h3:=ih h.2.2 fun e v hm=>hd e v (List.mem_cons_of_mem _ hm)
  have h4:Am.Ow (Am.Ow g d u) e.2.1.dst v=Am.Ow (Am.Ow g e.2.1.dst v) d u:=ZP fun x hx=>(he x hx).2
  refine⟨⟨h.1,?_,by rw[h4]; exact h3.1⟩,by simp only[chain]; rw[h4]; exact h3.2⟩
  have:=h.2.1
  unfold Told at this ⊢
  rw[h1,h2]; exact this
theorem Vj {i:Nat}{p:Ko}{st:St}(h:IU s i p st=true){js:List Nat}{k:AK}{args:List AV}{v:AV}(hm:(js,k,args,v)∈p)(hi:i∈js):∃r,step s k args st=some r/\v=r.1:=by
 induction p with
 |nil=>cases hm
 |cons x p ih=>
  obtain⟨js',k',args',v'⟩:=x
  simp only[IU,Bool.and_eq_true,Bool.or_eq_true,Bool.not_eq_true'] at h
  rcases List.mem_cons.1 hm with e|e
  ·cases e
   rcases h.1 with h1|h1
   ·exfalso
    have:js.any (Nat.beq i)=true:=List.any_eq_true.2 ⟨i,hi,by simp⟩
    rw[this] at h1; cases h1
   ·split at h1
    ·rename_i r hr; exact⟨r,hr,AV.beq_eq h1⟩
    ·cases h1
  ·exact ih h.2 e
end
def bH (listed:Array Bool)(i:Nat):Prop:=listed.getD i true=false
def ZH (listed:Array Bool)(i:Nat):Prop:=listed.getD i false=true
theorem Zn {listed:Array Bool}{i:Nat}(hi:i<listed.size):ZH listed i↔¬bH listed i:=by
 unfold ZH bH
 simp only[Array.getD_eq_getD_getElem?,Array.getElem?_eq_getElem hi,Option.getD_some]
 cases listed[i] <;> simp
def Qj (ops:Array Oper)(listed:Array Bool):Prop:=∀i o,ops[i]? =some o->ZH listed i->∀d∈o.after,Region.binds .any d=true->ZH listed d.on
theorem dh {ops:Array Oper}{listed:Array Bool}(hc:Qj ops listed){j i:Nat}(h:Xm ops j i):(∀o,ops[i]? =some o->∀d∈o.after,Region.binds .any d=true->ZH listed d.on)->ZH listed j:=by
 induction h with
 |dO i o d ho hd hb=>exact fun h=>h o ho d hd hb
 |more j i o d ho hd hb _ ih=>exact fun h=>ih fun o' ho' d' hd' hb'=>hc _ _ ho' (h o ho d hd hb) d' hd' hb'
theorem LX {ops:Array Oper}{listed:Array Bool}{i:Nat}:i∈Region.ready .any ops listed↔bH listed i/\∃o,ops[i]? =some o/\∀d∈o.after,Region.binds .any d=true->ZH listed d.on:=mem_ready
theorem Wl {ops:Array Oper}{listed:Array Bool}(hc:Qj ops listed){i:Nat}(hr:i∈Region.ready .any ops listed):Qj ops (listed.setIfInBounds i true):=by
 intro j o ho hj d hd hb
 have up:∀k,ZH listed k->ZH (listed.setIfInBounds i true) k:=fun k hk=>getD_set_true hk
 by_cases e:j=i
 ·subst e
  obtain⟨_,o',ho',h⟩:=LX.1 hr
  rw[ho] at ho'; cases ho'
  exact up _ (h d hd hb)
 ·have:ZH listed j:=by
   unfold ZH at hj ⊢
   rw[getD_set_ne false (Ne.symm e)] at hj; exact hj
  exact up _ (hc j o ho this d hd hb)
theorem XC {listed:Array Bool}{i j:Nat}(hi:i<listed.size):bH (listed.setIfInBounds i true) j↔bH listed j/\j≠i:=by
 unfold bH
 by_cases e:j=i
 ·subst e
  simp[hi]
 ·rw[getD_set_ne true (Ne.symm e)]; simp[e]
end Go.Am
end
section
namespace Go.Am
open Go Go.RowKit
variable {P:Program}
section
variable {G:Ov P}{base:Nat}{w0:Start}{I:Cz}{μ:Mu}{st:St}{w:World}{N:Nat}{ts tb:TS}{a:Act}
theorem Vv {o:Oper}{v:AV}{st':St}{so:Option Nat}(h:BK P base w0 I μ st w so (execOp a.eval o) v st'):TH P o a w fun rv w'=>∃ν,TG base w0 I μ st so ν st' w' v rv:=by
 intro K Q hK
 obtain⟨n,rv,w',ν,h1,h2,h3⟩:=h
 have:=hK rv w' ⟨ν,h3⟩
 unfold Oper.wp
 rw[h1]
 rcases h2 with h2|⟨h2,h4⟩
 ·subst h2; exact this
 ·subst h2 h4; exact this
theorem Vt {k:AK}(h:Dv k=true):QK k=false:=by cases k <;> simp[Dv] at h <;> rfl
theorem Yr {k:AK}(h:DC k=true):QK k=false:=by cases k <;> simp[DC] at h <;> rfl
theorem Zd {k:AK}(h:Dv k=true):Di k=none:=by cases k <;> simp[Dv] at h <;> rfl
theorem Zv (H:Ar base w0 I μ st w)(hF:JO N I μ tb a)(hG:Dl G.GT I){ops:Array Oper}{o:Oper}{e:Ng}(hc:IJ P G.X N G.GT ops o e.2.1=true){s:Nat}{p:Ko}{v:AV}(ht:Told s st μ p tb.get e v)(BQ:∀id,Di e.2.1.k=some id->s+id<st.c) :
 ah P ops o a w fun a' w'=>∃rv ν,a'=a.put o.dst rv/\Ar base w0 I ν st w'/\Ad I ν v rv/\μ.le ν/\∀q,(Di e.2.1.k).map (s+·)≠some q->ν q=μ q:=by
 simp only[IJ,Bool.and_eq_true,Bool.or_eq_true] at hc
 obtain⟨⟨hd,hg⟩,hk⟩:=hc
 have hw:=Ud hF hg
 rw[Jk] at hw
 intro K Q' hK
 rw[hw]
 rcases ht with⟨h1,h2⟩|⟨h1,h2⟩
 ·rw[if_neg (by rw[h1]; exact Bool.false_ne_true)]
  exact hK _ _ ⟨undef,μ,rfl,H,by rw[h2]; exact .tuple [] [] .nil,fun _ _ h=>h,fun _ _=>rfl⟩
 ·rw[if_pos h1]
  refine .inl ?_
  have key:BK P base w0 I μ st w ((Di e.2.1.k).map (s+·)) (execOp a.eval o) v st:=by
   rcases h2 with⟨hq,hs,_⟩|⟨hb,id,ob,hid,hbo,hf,hμ⟩
   ·rcases hk with hk|hk
    ·rw[Vt hq] at hk; cases hk
    ·split at hk
     ·rename_i os hos
      have ha:=Kc hF hG hk
      rw[OH] at ha
      exact TV H G.ext hos (fun _=>rfl) ha (fun id hid=>by rw[Zd hq] at hid; cases hid) hs
     ·cases hk
   ·rcases hk with hk|hk
    ·rw[Yr hb] at hk; cases hk
    ·split at hk
     ·rename_i os hos
      have ha:=Kc hF hG hk
      rw[OH] at ha
      rw[hid]
      exact VD H hos ha hbo hid hf hμ (BQ id hid)
     ·cases hk
  refine Vv key K Q' fun rv w' hr=>hK _ _ ?_
  obtain⟨ν,h3⟩:=hr
  exact⟨rv,ν,rfl,h3.rel,h3.val,h3.le,fun q hq=>h3.same q (Ne.symm hq)⟩
theorem YE {E:Env}{call:Nat->List AV->St->M (AV × St)}{s:Nat}{k:AK}{args:List AV}(h:LD k=false):GJ E call s k args st=M.Bu (step s k args st):=by
 cases k <;> first|rfl|(simp[LD,Dv,DC] at h)
theorem cB {E:Env}{call:Nat->List AV->St->M (AV × St)}{s:Nat}{e:Ng}(he:LD e.2.1.k=false){Q:TS × St->Prop}(h:(KG E call s e.2.1 ts st).all Q)(H:Ar base w0 I μ st w)(hid:∀id,Di e.2.1.k=some id->μ (s+id)=none/\AA st.h (s+id)=none/\s+id<st.c)(hdN:∀d,e.2.1.dst=some d->d+1<2 ^ 16)(p:Ko) :
 ∃v st',Q (put ts e.2.1.dst v,st')/\Ar base w0 I μ st' w/\st'.c=st.c/\st'.lo=st.lo/\aj st st'/\(∀q,(Di e.2.1.k).map (s+·)≠some q->AA st'.h q=AA st.h q) /\
  Told s st' μ (Pw e.2.1 e.2.2 ts (put ts e.2.1.dst v) p) ts.get e v:=by
 unfold KG at h
 rw[cond_eq_ite] at h
 by_cases hw:wanted e.2.1.guard ts=true
 ·rw[if_pos hw,M.all_bind,YE he] at h
  obtain⟨⟨v,st'⟩,h1,h2⟩:=M.Rq h
  rw[OH] at h1
  have hw':Fg e.2.1.guard ts.get=true:=by rw[← Jk]; exact hw
  cases hq:Dv e.2.1.k with
  |true=>
   have:=MP hq h1
   subst this
   refine⟨v,st',h2,H,rfl,rfl,fun _ _ h=>h,fun _ _=>rfl,.inr ⟨hw',.inl ⟨hq,h1,?_⟩⟩⟩
   by_cases hf:LC e.2.1.k=true
   ·exact .inl hf
   refine .inr ?_
   cases hjs:e.2.2 with
   |nil=>exact .inl rfl
   |cons j js=>
    refine .inr ?_
    cases hd:e.2.1.dst with
    |none=>exact .inl rfl
    |some d=>
     refine .inr ?_
     simp only[Pw,hw,cond_true,hd]
     rw[OH]
     have:(put ts (some d) v).get d=v:=by
      show (ts.set d v).get d=v
      rw[TS.PS _ _ _ _ (hdN d hd)]; simp
     rw[this]
     exact List.mem_cons_self ..
  |false=>
   have hb:DC e.2.1.k=true:=by
    simp only[LD,hq,Bool.false_or,Bool.not_eq_false'] at he; exact he
   obtain⟨id,i1,i2⟩:=Nn (st:=st) (s:=s) (args:=e.2.1.args.map (XO ts.get)) hb
   rw[i2] at h1
   obtain⟨g1,g2,g3⟩:=hid id i1
   obtain⟨ob,b1,H',hf,hc,hl⟩:=SE H h1 g1 g3
   have hkept:=Rp h1
   have hmore:aj st st':=by
    intro q x hx
    by_cases hqe:q=s+id
    ·subst hqe; rw[g2] at hx; cases hx
    ·rw[hkept q hqe]; exact hx
   refine⟨v,st',h2,H',hc,hl,hmore,fun q hne=>hkept q fun e'=>hne (by rw[i1,e']; rfl),.inr ⟨hw',.inr ⟨hb,id,ob,i1,b1,hf,g1⟩⟩⟩
 ·rw[if_neg hw] at h
  exact⟨.undef,st,h,H,rfl,rfl,fun _ _ h=>h,fun _ _=>rfl,.inl ⟨by rw[← Jk]; simpa using hw,rfl⟩⟩
theorem Tt {o:CV}{js:List Nat}{ts ts':TS}{p:Ko}{x:List Nat × AK × List AV × AV}(h:x∈p):x∈Pw o js ts ts' p:=by
 unfold Pw
 split
 ·exact h
 ·rw[cond_eq_ite]
  split
  ·split
   ·exact List.mem_cons_of_mem _ h
   ·exact h
  ·exact h
theorem Told.more {s:Nat}{st st':St}{μ:Mu}{p p':Ko}{g:Sl}{e:Ng}{v:AV}(h:Told s st μ p g e v)(hm:aj st st')(hp:∀x∈p,x∈p'):Told s st' μ p' g e v:=by
 rcases h with h|⟨h1,h2⟩
 ·exact .inl h
 ·refine .inr ⟨h1,?_⟩
  rcases h2 with⟨hq,hs,hj⟩|⟨hb,id,ob,i1,i2,i3,i4⟩
  ·exact .inl ⟨hq,Vs hm hq hs,hj.imp id fun h=>h.imp id fun h=>h.imp id fun h=>hp _ h⟩
  ·exact .inr ⟨hb,id,ob,i1,i2,hm _ _ i3,i4⟩
theorem LH {X:Nat->Option Ext}{GT:Nat->Option AV}{ops:Array Oper}{o:Oper}{ao:CV}(h:IJ P X N GT ops o ao=true):o.dst=ao.dst/\∀d,ao.dst=some d->d<N:=by
 simp only[IJ,Bool.and_eq_true] at h
 obtain⟨h1,h2⟩:=Rk h.1.1
 exact⟨h1,fun d hd=>h2 d (h1.trans hd)⟩
theorem At.step {S:Nat->Prop}{J:Cz}{ν:Mu}{st':St}{Q:TS × St->Prop}{a0 a1 a2:Act}{w2:World}(hn:Nx I μ st S J ν st')(hd:a1.defers=a0.defers)(h:At base w0 N J ν st' S Q a1 a2 w2):At base w0 N I μ st S Q a0 a2 w2:=by
 obtain⟨ts',st2,K,ξ,h1,h2,h3,h4,h5⟩:=h
 exact⟨ts',st2,K,ξ,h1,h2,h3,hn.trans h4 fun p _ h=>h,h5.trans hd⟩
theorem Ww {E:Env}{call:Nat->List AV->St->M (AV × St)}{s:Nat}{o:CV}(h1:o.args.map (XO ts.get)=o.args.map (XO tb.get))(h2:Fg o.guard ts.get=Fg o.guard tb.get){Q:TS × St->Prop}(h:(KG E call s o ts st).all Q):(KG E call s o tb st).all fun r=>∃v,r.1=put tb o.dst v/\Q (put ts o.dst v,r.2):=by
 unfold KG at h ⊢
 rw[Jk,h2,← Jk,cond_eq_ite] at h
 rw[cond_eq_ite]
 split
 ·rename_i hw
  rw[if_pos hw] at h
  rw[OH,h1,← OH,M.all_bind] at h
  rw[M.all_bind]
  exact M.VM h fun r hr=>⟨r.1,rfl,hr⟩
 ·rename_i hw
  rw[if_neg hw] at h
  exact⟨.undef,rfl,h⟩
theorem Tm {ops:Array Oper}{X:Nat->Option Ext}{GT:Nat->Option AV}{na:Nat}{L:List Ng}(hD:XB P X N GT ops na L){listed:Array Bool}(hsz:listed.size=ops.size){e:Ng}{rest:List Ng}(hsub:(e::rest).Sublist L)(hl:∀j,j<ops.size->(bH listed j↔j∈(e::rest).map (·.1))):e.1∈Region.ready .any ops listed:=by
 obtain⟨o,ho,_,hedge,_⟩:=hD.elem e (hsub.subset (List.mem_cons_self ..))
 have hi:e.1<ops.size:=(Array.getElem?_eq_some_iff.1 ho).1
 refine LX.2 ⟨(hl _ hi).2 (by simp),o,ho,fun d hd hb=>?_⟩
 obtain⟨h1,h2⟩:=hedge d hd hb
 rw[Zn (by rw[hsz]; exact h1)]
 intro hu
 have:=(hl _ h1).1 hu
 rw[List.map_cons,List.mem_cons] at this
 rcases this with h|h
 ·exact h2 h
 ·obtain⟨g,hg,hge⟩:=List.mem_map.1 h
  have hp:=hD.pair.sublist hsub
  rw[List.pairwise_cons] at hp
  exact (hp.1 g hg).dO o ho d hd hb hge.symm
theorem LP {o:CV}:∀(l:List (Ng × AV)) (g:Sl),(∀f u,(f,u)∈l->∀d,f.2.1.dst=some d->d∉MW o)->o.args.map (XO (chain g l))=o.args.map (XO g)/\Fg o.guard (chain g l)=Fg o.guard g
 |[],g,_=>⟨rfl,rfl⟩
 |(f,u)::l,g,h=>by
  obtain⟨h1,h2⟩:=LP l (Ow g f.2.1.dst u) fun f u hm=>h f u (List.mem_cons_of_mem _ hm)
  obtain⟨h3,h4⟩:=RX (g:=g) (v:=u) (o:=o) fun x hx=>h f u (List.mem_cons_self ..) x hx
  exact⟨h1.trans h3,h2.trans h4⟩
theorem dP {call:Nat->List AV->St->M (AV × St)}(hcall:Ig P G.GT call){ops:Array Oper}{na:Nat}{L:List Ng}(hD:XB P G.X N G.GT ops na L){s:Nat}{Qx:Exit->Act->World->Prop} :
 ∀(fuel:Nat) (R:List Ng) (lag:List (Ng × AV)) (p:Ko) (tb ts:TS) (st:St) (a:Act) (w:World) (I:Cz) (μ:Mu) (Q:TS × St->Prop) (listed:Array Bool),
 R.length+lag.length<=fuel->(lag.map (·.1)++R).Sublist L->listed.size=ops.size->(∀j,j<ops.size->(bH listed j↔j∈(lag.map (·.1)++R).map (·.1)))->Qj ops listed ->
 Ar base w0 I μ st w->st.lo<=s->s+na<=st.c->JO N I μ tb a->Dl G.GT I->ts.get=chain tb.get lag->Gj s st μ p tb.get lag ->
 (∀e∈R,∀id,Di e.2.1.k=some id->μ (s+id)=none/\AA st.h (s+id)=none)->(Fe G.E call s R p ts st).all Q ->
 (∀a' w',At base w0 N I μ st (s<=·) Q a a' w'->Qx .normal a' w')->wpAny P .any ops Qx fuel listed a w:=by
 intro fuel
 induction fuel with
 |zero=>
  intro R lag p tb ts st a w I μ Q listed hfuel hsub hsz hl hcl H hlo hna hF hG hts hlag hids h hQ
  have hR:R=[]:=List.eq_nil_of_length_eq_zero (by omega)
  have hL:lag=[]:=List.eq_nil_of_length_eq_zero (by omega)
  subst hR hL
  refine⟨?_,hQ a w ⟨ts,st,I,μ,h,H,⟨hF.size,hF.small,fun t ht=>?_⟩,Nx.refl _ _ _ _,rfl⟩⟩
  ·rw[List.eq_nil_iff_forall_not_mem]
   intro j hj
   obtain⟨hu,o,ho,_⟩:=LX.1 hj
   have:=(hl j (Array.getElem?_eq_some_iff.1 ho).1).1 hu
   simp at this
  ·rw[hts]; exact hF.get t ht
 |succ fuel IH=>
  have real:∀(R:List Ng) (lag:List (Ng × AV)) (p:Ko) (tb ts:TS) (st:St) (a:Act) (w:World) (I:Cz) (μ:Mu) (Q:TS × St->Prop) (listed:Array Bool),(∀e R',R=e::R'->LD e.2.1.k=true) ->
   R.length+lag.length<=fuel+1->(lag.map (·.1)++R).Sublist L->listed.size=ops.size->(∀j,j<ops.size->(bH listed j↔j∈(lag.map (·.1)++R).map (·.1)))->Qj ops listed ->
   Ar base w0 I μ st w->st.lo<=s->s+na<=st.c->JO N I μ tb a->Dl G.GT I->ts.get=chain tb.get lag->Gj s st μ p tb.get lag ->
   (∀e∈R,∀id,Di e.2.1.k=some id->μ (s+id)=none/\AA st.h (s+id)=none)->(Fe G.E call s R p ts st).all Q ->
   (∀a' w',At base w0 N I μ st (s<=·) Q a a' w'->Qx .normal a' w')->wpAny P .any ops Qx (fuel+1) listed a w:=by
   intro R lag p tb ts st a w I μ Q listed heff hfuel hsub hsz hl hcl H hlo hna hF hG hts hlag hids h hQ
   have hnd:((lag.map (·.1)++R).map (·.1)).Nodup:=hD.nodup.sublist (hsub.map _)
   have hpw:=hD.pair.sublist hsub
   refine⟨fun hr=>?_,fun i hi=>?_⟩
   ·cases hE:lag.map (·.1)++R with
    |nil=>
     obtain⟨hL,hR⟩:=List.append_eq_nil_iff.1 hE
     have hL:lag=[]:=by simpa using hL
     subst hR hL
     exact hQ a w ⟨ts,st,I,μ,h,H,⟨hF.size,hF.small,fun t ht=>by rw[hts]; exact hF.get t ht⟩,Nx.refl _ _ _ _,rfl⟩
    |cons e rest=>
     have:=Tm hD hsz (hE ▸ hsub) (hE ▸ hl)
     rw[hr] at this; cases this
   ·obtain⟨hu,o,ho,hedges⟩:=LX.1 hi
    have hilt:i<ops.size:=(Array.getElem?_eq_some_iff.1 ho).1
    have hm:=(hl i hilt).1 hu
    have hcl':=Wl hcl hi
    have befl:∀j,Xm ops j i->ZH listed j:=fun j hb=>dh hcl hb fun o' ho' d hd hb=>by rw[ho] at ho'; cases ho'; exact hedges d hd hb
    have notlis:∀j,j∈(lag.map (·.1)++R).map (·.1)->¬Xm ops j i:=fun j hj hb=>by
     have hjl:j<ops.size:=by
      obtain⟨g,hg,rfl⟩:=List.mem_map.1 hj
      obtain⟨o',ho',_⟩:=hD.elem g (hsub.subset hg)
      exact (Array.getElem?_eq_some_iff.1 ho').1
     exact (Zn (by rw[hsz]; exact hjl)).1 (befl j hb) ((hl j hjl).2 hj)
    unfold wpOp
    simp only[ho]
    rw[List.map_append,List.mem_append] at hm
    rcases hm with hm|hm
    ·obtain⟨e',he',hie⟩:=List.mem_map.1 hm
     obtain⟨⟨e,v⟩,hmem,rfl⟩:=List.mem_map.1 he'
     simp only at hie
     subst hie
     obtain⟨l1,l2,rfl⟩:=List.append_of_mem hmem
     obtain⟨hl1,hl2⟩:=Gj.append.1 hlag
     have hap:∀f u,(f,u)∈l1->Gw ops f e:=fun f u hf=>by
      simp only[List.map_append,List.map_cons,List.append_assoc,List.cons_append] at hpw
      rw[List.pairwise_append] at hpw
      exact hpw.2.2 f (List.mem_map.2 ⟨_,hf,rfl⟩) e (List.mem_cons_self ..)
     have hap2:∀f,(∃u,(f,u)∈l2)∨f∈R->Gw ops e f:=fun f hf=>by
      simp only[List.map_append,List.map_cons,List.append_assoc,List.cons_append] at hpw
      rw[List.pairwise_append,List.pairwise_cons] at hpw
      refine hpw.2.1.1 f (List.mem_append.2 ?_)
      rcases hf with⟨u,hf⟩|hf
      ·exact .inl (List.mem_map.2 ⟨_,hf,rfl⟩)
      ·exact .inr hf
     have hapA:∀f u,(f,u)∈l1->TJ f.2.1 e.2.1:=fun f u hf=>(hap f u hf).apart.resolve_right (notlis _ (List.mem_map.2 ⟨f,List.mem_append_left _ (List.mem_map.2 ⟨(f,u),List.mem_append_left _ hf,rfl⟩),rfl⟩))
     obtain⟨c1,c2⟩:=LP (o:=e.2.1) l1 tb.get fun f u hf d hd=>((hapA f u hf).1 d hd).1
     have htold:Told s st μ p tb.get e v:=by
      have:=hl2.2.1
      unfold Told at this ⊢
      rw[c1,c2] at this; exact this
     obtain⟨o',ho',hc,_,hidlt⟩:=hD.elem e (hsub.subset (List.mem_append_left _ (List.mem_map.2 ⟨_,hmem,rfl⟩)))
     rw[ho] at ho'; cases ho'
     obtain⟨hd1,hd2⟩:=LH hc
     refine Zv H hF hG hc htold (fun id hid=>by have:=hidlt id hid; omega) _ Qx fun a' w' hr=>?_
     obtain⟨rv,ν,rfl,H',hv,hle,hsame⟩:=hr
     obtain⟨u1,u2⟩:=Gj.Ow (u:=v) hl1 (d:=e.2.1.dst) fun f u hf x hx=>⟨(hapA f u hf).2 x hx,fun hfx=>((hapA f u hf).1 x hfx).2 hx⟩
     have LF:=put_eq hF.small tb hd2 v
     have hother:∀f,Gw ops f e∨Gw ops e f->∀id,Di f.2.1.k=some id->ν (s+id)=μ (s+id):=fun f hf id hid=>hsame _ fun q=>by
      obtain⟨id',q1,q2⟩:=Option.map_eq_some_iff.1 q
      have:id'=id:=by omega
      subst this
      rcases hf with hf|hf
      ·exact hf.ids _ hid q1
      ·exact hf.ids _ q1 hid
     have toldν:∀f,Gw ops f e∨Gw ops e f->∀u g,Told s st μ p g f u->Told s st ν p g f u:=fun f hf u g ht=>by
      rcases ht with ht|⟨t1,t2⟩
      ·exact .inl ht
      ·refine .inr ⟨t1,?_⟩
       rcases t2 with t2|⟨tb',id,ob,t3,t4,t5,t6⟩
       ·exact .inl t2
       ·exact .inr ⟨tb',id,ob,t3,t4,t5,by rw[hother f hf id t3]; exact t6⟩
     have hsl:((l1++l2).map (·.1)++R).Sublist ((l1++(e,v)::l2).map (·.1)++R):=by
      simp only[List.map_append,List.map_cons,List.append_assoc]
      exact List.Sublist.append_left (List.sublist_cons_self _ _) _
     refine IH R (l1++l2) p (put tb e.2.1.dst v) ts st _ w' I ν Q _ (by simp at hfuel ⊢; omega) (hsl.trans hsub) (by simp[hsz]) (fun j hj=>?_) hcl' H' hlo hna ?_ hG ?_ ?_ (fun f hf id hid=>?_) h fun a2 w2 hr=>hQ a2 w2 ?_
     ·rw[XC (by rw[hsz]; exact hilt),hl j hj]
      simp only[List.map_append,List.map_cons,List.mem_append,List.mem_cons,List.map_map] at hnd ⊢
      rw[List.append_assoc,List.nodup_append,List.cons_append,List.nodup_cons] at hnd
      obtain⟨n1,⟨n2,n3⟩,n4⟩:=hnd
      constructor
      ·rintro⟨h1,h2⟩
       rcases h1 with (h1|h1|h1)|h1
       ·exact .inl (.inl h1)
       ·exact absurd h1 h2
       ·exact .inl (.inr h1)
       ·exact .inr h1
      ·intro h1
       refine⟨?_,fun hje=>?_⟩
       ·rcases h1 with (h1|h1)|h1
        ·exact .inl (.inl h1)
        ·exact .inl (.inr (.inr h1))
        ·exact .inr h1
       ·subst hje
        rcases h1 with (h1|h1)|h1
        ·exact n4 _ h1 _ (List.mem_cons_self ..) rfl
        ·exact n2 (List.mem_append.2 (.inl h1))
        ·exact n2 (List.mem_append.2 (.inr h1))
     ·rw[hd1]
      exact (hF.mono (Cz.le_refl I) hle).put hv hd2
     ·rw[LF,Ke,u2,hts,Ke]; rfl
     ·rw[LF]
      refine Gj.append.2 ⟨u1.map fun f u hf g ht=>toldν f (.inl (hap f u hf)) u g ht,?_⟩
      rw[u2]
      exact hl2.2.2.map fun f u hf g ht=>toldν f (.inr (hap2 f (.inl ⟨u,hf⟩))) u g ht
     ·rw[hother f (.inr (hap2 f (.inr hf))) id hid]
      exact hids f hf id hid
     ·refine At.step ⟨Cz.le_refl I,hle,fun q _ hq=>hsame q fun e'=>?_,Nat.le_refl _,rfl,fun _ _ _ _=>rfl⟩ (put_defers _ _ _) hr
      obtain⟨id',_,q2⟩:=Option.map_eq_some_iff.1 e'
      exact hq (by show s<=q; omega)
    ·cases R with
     |nil=>cases hm
     |cons e R=>
      have hee:=heff e R rfl
      have hie:i=e.1:=by
       rw[List.map_cons,List.mem_cons] at hm
       rcases hm with hm|hm
       ·exact hm
       ·exfalso
        obtain⟨g,hg,rfl⟩:=List.mem_map.1 hm
        rw[List.pairwise_append,List.pairwise_cons] at hpw
        exact notlis e.1 (List.mem_map.2 ⟨e,List.mem_append_right _ (List.mem_cons_self ..),rfl⟩) ((hpw.2.1.1 g hg).nU hee)
      subst hie
      have hap:∀f u,(f,u)∈lag->Gw ops f e:=fun f u hf=>by
       rw[List.pairwise_append] at hpw
       exact hpw.2.2 f (List.mem_map.2 ⟨_,hf,rfl⟩) e (List.mem_cons_self ..)
      have hap2:∀f∈R,Gw ops e f:=fun f hf=>by
       rw[List.pairwise_append,List.pairwise_cons] at hpw
       exact hpw.2.1.1 f hf
      have hnb:∀f u,(f,u)∈lag->¬Xm ops f.1 e.1:=fun f u hf=>notlis _ (List.mem_map.2 ⟨f,List.mem_append_left _ (List.mem_map.2 ⟨(f,u),hf,rfl⟩),rfl⟩)
      have hapA:∀f u,(f,u)∈lag->TJ f.2.1 e.2.1:=fun f u hf=>(hap f u hf).apart.resolve_right (hnb f u hf)
      obtain⟨c1,c2⟩:=LP (o:=e.2.1) lag tb.get fun f u hf d hd=>((hapA f u hf).1 d hd).1
      obtain⟨o',ho',hc,_,hidlt⟩:=hD.elem e (hsub.subset (List.mem_append_right _ (List.mem_cons_self ..)))
      rw[ho] at ho'; cases ho'
      obtain⟨hd1,hd2⟩:=LH hc
      obtain⟨e1,e2,e3⟩:=e
      rw[Fe,M.all_bind] at h
      have h':=Ww (tb:=tb) (by rw[hts]; exact c1) (by rw[hts]; exact c2) h
      refine Xc hcall H (by omega) hF hG hc (fun id hid=>⟨(hids _ (List.mem_cons_self ..) id hid).1,by have:=hidlt id hid; omega,by omega⟩) h' _ Qx fun a' w' hr=>?_
      obtain⟨ts',st',J,ν,⟨v,g1,g2⟩,H',hF',hN,hdf⟩:=hr
      simp only at g1 g2
      subst g1
      rw[cond_eq_ite] at g2
      split at g2
      ·rename_i hst
       obtain⟨u1,u2⟩:=Gj.Ow (u:=v) hlag (d:=e2.dst) fun f u hf x hx=>⟨(hapA f u hf).2 x hx,fun hfx=>((hapA f u hf).1 x hfx).2 hx⟩
       have LF:=put_eq hF.small tb hd2 v
       have hput2:=put_eq hF.small ts hd2 v
       have hidne:∀f,Gw ops f (e1,e2,e3)∨Gw ops (e1,e2,e3) f->∀id,Di f.2.1.k=some id->¬(Di e2.k).map (s+·)=some (s+id):=fun f hf id hid q=>by
        obtain⟨id',q1,q2⟩:=Option.map_eq_some_iff.1 q
        have:id'=id:=by omega
        subst this
        rcases hf with hf|hf
        ·exact hf.ids _ hid q1
        ·exact hf.ids _ q1 hid
       have hidc:∀f,f∈L->∀id,Di f.2.1.k=some id->s+id<st.c:=fun f hf id hid=>by
        obtain⟨_,_,_,_,q⟩:=hD.elem f hf
        have:=q id hid; omega
       refine IH R lag (Pw e2 e3 ts (put ts e2.dst v) p) (put tb e2.dst v) (put ts e2.dst v) st' a' w' J ν Q _ (by simp at hfuel ⊢; omega) (List.Sublist.trans (List.Sublist.append_left (List.sublist_cons_self _ _) _) hsub) (by simp[hsz]) (fun j hj=>?_) hcl' H'
        (by rw[hN.lo]; exact hlo) (Nat.le_trans hna hN.c) hF' (hG.mono hN.JM) ?_ ?_ (fun f hf id hid=>?_) g2 fun a2 w2 hr=>hQ a2 w2 ?_
       ·rw[XC (by rw[hsz]; exact hilt),hl j hj]
        simp only[List.map_append,List.map_cons,List.mem_append,List.mem_cons] at hnd ⊢
        rw[List.nodup_append,List.nodup_cons] at hnd
        obtain⟨n1,⟨n2,n3⟩,n4⟩:=hnd
        constructor
        ·rintro⟨h1,h2⟩
         rcases h1 with h1|h1|h1
         ·exact .inl h1
         ·exact absurd h1 h2
         ·exact .inr h1
        ·intro h1
         refine⟨?_,fun hje=>?_⟩
         ·rcases h1 with h1|h1
          ·exact .inl h1
          ·exact .inr (.inr h1)
         ·subst hje
          rcases h1 with h1|h1
          ·exact n4 _ h1 _ (List.mem_cons_self ..) rfl
          ·exact n2 h1
       ·rw[LF,hput2,u2,hts]
       ·rw[LF]
        refine u1.map fun f u hf g ht=>?_
        rcases ht with ht|⟨t1,t2⟩
        ·exact .inl ht
        ·refine .inr ⟨t1,?_⟩
         rcases t2 with⟨t2,t3,t4⟩|⟨tb',id,ob,t3,t4,t5,t6⟩
         ·refine .inl ⟨t2,?_,t4.imp id fun t=>t.imp id fun t=>t.imp id fun t=>Tt t⟩
          rcases (hap f u hf).load hee with q|q|q|⟨q,q'⟩
          ·exact QR q t3
          ·exfalso
           revert q t2
           cases f.2.1.k <;> simp[DC,Dv]
          ·exact absurd q (hnb f u hf)
          ·rcases t4 with t4|t4|t4|t4
           ·exact QR t4 t3
           ·rw[t4] at q; cases q
           ·rw[t4] at q'; cases q'
           ·obtain⟨r,r1,r2⟩:=Vj hst t4 q
            obtain⟨r',r''⟩:=r
            have:=MP t2 r1
            simp only at r2 this
            subst r2 this
            exact r1
         ·have hmL:=hsub.subset (List.mem_append_left _ (List.mem_map.2 ⟨(f,u),hf,rfl⟩))
          exact .inr ⟨tb',id,ob,t3,t4,by rw[hN.kept _ (hidc f hmL id t3) (hidne f (.inl (hap f u hf)) id t3) t6]; exact t5,by rw[hN.same _ (hidc f hmL id t3) (hidne f (.inl (hap f u hf)) id t3)]; exact t6⟩
       ·have hmL:=hsub.subset (List.mem_append_right _ (List.mem_cons_of_mem _ hf))
        obtain⟨q1,q2⟩:=hids f (List.mem_cons_of_mem _ hf) id hid
        have hne:=hidne f (.inr (hap2 f hf)) id hid
        exact⟨by rw[hN.same _ (hidc f hmL id hid) hne]; exact q1,by rw[hN.kept _ (hidc f hmL id hid) hne q1]; exact q2⟩
       ·refine At.step (hN.mono fun q _ e'=>?_) hdf hr
        obtain⟨id',_,q2⟩:=Option.map_eq_some_iff.1 e'
        show s<=q
        omega
      ·exact g2.elim
  intro R
  induction R with
  |nil=>
   intro lag p tb ts st a w I μ Q listed
   exact real [] lag p tb ts st a w I μ Q listed (fun e R' h=>by cases h)
  |cons e R ihR=>
   intro lag p tb ts st a w I μ Q listed hfuel hsub hsz hl hcl H hlo hna hF hG hts hlag hids h hQ
   cases hee:LD e.2.1.k with
   |true=>exact real (e::R) lag p tb ts st a w I μ Q listed (fun e' R' h=>by cases h; exact hee) hfuel hsub hsz hl hcl H hlo hna hF hG hts hlag hids h hQ
   |false=>
    have hpw:=hD.pair.sublist hsub
    have hap2:∀f∈R,Gw ops e f:=fun f hf=>by
     rw[List.pairwise_append,List.pairwise_cons] at hpw
     exact hpw.2.1.1 f hf
    obtain⟨o,ho,hc,_,hidlt⟩:=hD.elem e (hsub.subset (List.mem_append_right _ (List.mem_cons_self ..)))
    obtain⟨hd1,hd2⟩:=LH hc
    have hsm:=hF.small
    obtain⟨e1,e2,e3⟩:=e
    rw[Fe,M.all_bind] at h
    obtain⟨v,st',g2,H',hc',hl',hmore,hkept,htold⟩:=cB (e:=(e1,e2,e3)) hee h H (fun id hid=>by
     obtain⟨q1,q2⟩:=hids _ (List.mem_cons_self ..) id hid
     exact⟨q1,q2,by have:=hidlt id hid; omega⟩) (fun d hd=>by have:=hd2 d hd; omega) p
    simp only at g2
    rw[cond_eq_ite] at g2
    split at g2
    ·have hput2:=put_eq hF.small ts hd2 v
     have hlist:(lag++[((e1,e2,e3),v)]).map (·.1)++R=lag.map (·.1)++(e1,e2,e3)::R:=by simp
     refine ihR (lag++[((e1,e2,e3),v)]) (Pw e2 e3 ts (put ts e2.dst v) p) tb (put ts e2.dst v) st' a w I μ Q listed (by simp at hfuel ⊢; omega) (by rw[hlist]; exact hsub) hsz (by rw[hlist]; exact hl) hcl H' (by rw[hl']; exact hlo) (by rw[hc']; exact hna) hF hG ?_ ?_ (fun f hf id hid=>?_) g2 fun a2 w2 hr=>hQ a2 w2 ?_
     ·rw[hput2,Ke,hts]; rfl
     ·refine Gj.append.2 ⟨hlag.map fun f u hf g ht=>ht.more hmore fun x hx=>Tt hx,hee,?_,trivial⟩
      rw[← hts]; exact htold
     ·obtain⟨q1,q2⟩:=hids f (List.mem_cons_of_mem _ hf) id hid
      refine⟨q1,?_⟩
      rw[hkept _ fun q=>?_]
      ·exact q2
      ·obtain⟨id',q3,q4⟩:=Option.map_eq_some_iff.1 q
       have:id'=id:=by omega
       subst this
       exact (hap2 f hf).ids _ q3 hid
     ·refine At.step ⟨Cz.le_refl I,fun _ _ h=>h,fun _ _ _=>rfl,by rw[hc']; exact Nat.le_refl _,hl',fun q _ hq _=>hkept q fun e'=>?_⟩ rfl hr
      obtain⟨id',_,q2⟩:=Option.map_eq_some_iff.1 e'
      exact hq (by show s<=q; omega)
    ·exact g2.elim
end
end Go.Am
end
section
namespace Go.Am
open Go Go.RowKit
variable {P:Program}
def look (i:Nat):List (Nat × Nat)->Nat
 |[]=>0
 |(j,m)::l=>bif Nat.beq j i then m else look i l
def MV (acc:List (Nat × Nat)):List Edge->Nat
 |[]=>0
 |d::l=>bif Region.binds .any d then (MV acc l ||| (2 ^ d.on)) ||| look d.on acc else MV acc l
def Ob (x:Nat):List Nat->Bool
 |[]=>false
 |y::l=>Nat.beq y x||Ob x l
theorem Lc {x:Nat}{l:List Nat}:Ob x l=true↔x∈l:=by
 induction l with
 |nil=>simp[Ob]
 |cons y l ih=>
  simp only[Ob,Bool.or_eq_true,ih,List.mem_cons,beq_eq,decide_eq_true_eq]
  constructor
  ·rintro (h|h)
   ·exact .inl h.symm
   ·exact .inr h
  ·rintro (h|h)
   ·exact .inl h.symm
   ·exact .inr h
def Wv (x y:CV):Bool:=
 (match x.dst with|some d=>!Ob d (MW y)&&(match y.dst with|some e=>!Nat.beq e d|none=>true)|none=>true) &&
 (match y.dst with|some d=>!Ob d (MW x)|none=>true)
theorem Yz {x y:CV}(h:Wv x y=true):TJ x y:=by
 simp only[Wv,Bool.and_eq_true] at h
 obtain⟨h1,h2⟩:=h
 refine⟨fun d hd=>?_,fun d hd=>?_⟩
 ·rw[hd] at h1
  simp only[Bool.and_eq_true,Bool.not_eq_true'] at h1
  refine⟨fun hm=>?_,fun hy=>?_⟩
  ·rw[Lc.2 hm] at h1; cases h1.1
  ·rw[hy] at h1; simp at h1
 ·rw[hd] at h2
  simp only[Bool.not_eq_true'] at h2
  intro hm
  rw[Lc.2 hm] at h2; cases h2
def iO (a b:AK):Bool:=match Di a,Di b with
 |some i,some j=>!Nat.beq i j
 |_,_=>true
theorem cz {a b:AK}(h:iO a b=true):∀id,Di a=some id->Di b≠some id:=by
 intro id h1 h2
 unfold iO at h
 rw[h1,h2] at h
 simp at h
def eU (ops:Array Oper)(e:Ng)(m:Nat)(f:Ng):Bool:=
 let b:=m.testBit f.1
 (match ops[f.1]? with|some o=>o.after.toList.all fun d=>!Region.binds .any d||!Nat.beq d.on e.1|none=>true) &&
 (b||(Wv f.2.1 e.2.1&&!LD f.2.1.k&&(!LD e.2.1.k||LC f.2.1.k||DC f.2.1.k||(Ob e.1 f.2.2&&f.2.1.dst.isSome)))) &&
 iO f.2.1.k e.2.1.k&&!Nat.beq f.1 e.1
def XU (P:Program)(X:Nat->Option Ext)(N:Nat)(GT:Nat->Option AV)(ops:Array Oper)(na:Nat):List Ng->List (Nat × Nat)->List Ng->Bool
 |_,_,[]=>true
 |pre,acc,e::l=>
  (match ops[e.1]? with
  |some o=>
   let m:=MV acc o.after.toList
   IJ P X N GT ops o e.2.1&&(o.after.toList.all fun d=>!Region.binds .any d||(Nat.blt d.on ops.size&&!Nat.beq d.on e.1)) &&
   (match Di e.2.1.k with|some id=>Nat.blt id na|none=>true)&&pre.all (eU ops e m)&&XU P X N GT ops na (e::pre) ((e.1,m)::acc) l
  |none=>false)
def NT (P:Program)(X:Nat->Option Ext)(N:Nat)(GT:Nat->Option AV)(ops:Array Oper)(na:Nat)(L:List Ng):Bool:=
 XU P X N GT ops na [] [] L&&Nat.beq L.length ops.size&&(List.range ops.size).all fun j=>Ob j (L.map (·.1))
theorem Zm {i:Nat}{acc:List (Nat × Nat)}{b:Nat}(h:(look i acc).testBit b=true):∃m,(i,m)∈acc/\m.testBit b=true:=by
 induction acc with
 |nil=>simp[look] at h
 |cons x acc ih=>
  obtain⟨j,m⟩:=x
  simp only[look,beq_eq,cond_eq_ite,decide_eq_true_eq] at h
  split at h
  ·rename_i e; subst e; exact⟨m,List.mem_cons_self ..,h⟩
  ·obtain⟨m',h1,h2⟩:=ih h
   exact⟨m',List.mem_cons_of_mem _ h1,h2⟩
theorem Ny {ops:Array Oper}{acc:List (Nat × Nat)}(ha:∀j m,(j,m)∈acc->∀b,m.testBit b=true->Xm ops b j){i:Nat}{o:Oper}(ho:ops[i]? =some o){b:Nat}:∀{l:List Edge},(∀d∈l,d∈o.after)->(MV acc l).testBit b=true->Xm ops b i
 |[],_,h=>by simp[MV] at h
 |d::l,hl,h=>by
  simp only[MV,cond_eq_ite] at h
  split at h
  ·rename_i hb
   simp only[Nat.testBit_or,Bool.or_eq_true] at h
   rcases h with (h|h)|h
   ·exact Ny ha ho (fun d hd=>hl d (List.mem_cons_of_mem _ hd)) h
   ·rw[Nat.testBit_two_pow] at h
    have h:d.on=b:=by simpa using h
    subst h
    exact .dO i o d ho (hl d (List.mem_cons_self ..)) hb
   ·obtain⟨m,h1,h2⟩:=Zm h
    exact .more b i o d ho (hl d (List.mem_cons_self ..)) hb (ha _ _ h1 b h2)
  ·exact Ny ha ho (fun d hd=>hl d (List.mem_cons_of_mem _ hd)) h
theorem Uq {X:Nat->Option Ext}{N:Nat}{GT:Nat->Option AV}{ops:Array Oper}{na:Nat}:∀(l pre:List Ng) (acc:List (Nat × Nat)),(∀j m,(j,m)∈acc->∀b,m.testBit b=true->Xm ops b j)->XU P X N GT ops na pre acc l=true ->
 (∀e∈l,∃o,ops[e.1]? =some o/\IJ P X N GT ops o e.2.1=true/\(∀d∈o.after,Region.binds .any d=true->d.on<ops.size/\d.on≠e.1)/\(∀id,Di e.2.1.k=some id->id<na)) /\
 (∀f∈pre,∀e∈l,Gw ops f e/\f.1≠e.1)/\l.Pairwise fun f e=>Gw ops f e/\f.1≠e.1
 |[],pre,acc,_,_=>⟨by simp,by simp,.nil⟩
 |e::l,pre,acc,ha,h=>by
  simp only[XU] at h
  split at h
  ·rename_i o ho
   simp only[Bool.and_eq_true,List.all_eq_true,Bool.or_eq_true,Bool.not_eq_true'] at h
   obtain⟨⟨⟨⟨h1,h2⟩,h3⟩,h4⟩,h5⟩:=h
   have hm:∀b,(MV acc o.after.toList).testBit b=true->Xm ops b e.1:=fun b hb=>Ny ha ho (fun d hd=>by simpa using hd) hb
   obtain⟨g1,g2,g3⟩:=Uq l (e::pre) _ (fun j m hj=>by
    rcases List.mem_cons.1 hj with q|q
    ·cases q; exact hm
    ·exact ha j m q) h5
   refine⟨fun x hx=>?_,fun f hf x hx=>?_,?_⟩
   ·rcases List.mem_cons.1 hx with q|q
    ·subst q
     refine⟨o,ho,h1,fun d hd hb=>?_,fun id hid=>?_⟩
     ·have:=h2 d (by simpa using hd)
      rw[hb] at this
      simp only[Bool.true_eq_false,false_or,blt_eq,decide_eq_true_eq,beq_eq,decide_eq_false_iff_not] at this
      exact this
     ·rw[hid] at h3
      simp only at h3
      rw[blt_eq] at h3
      simpa using h3
    ·exact g1 x q
   ·rcases List.mem_cons.1 hx with q|q
    ·subst q
     have hp:=h4 f hf
     simp only[eU,Bool.and_eq_true,Bool.or_eq_true,Bool.not_eq_true'] at hp
     obtain⟨⟨⟨p1,p2⟩,p3⟩,p4⟩:=hp
     refine⟨⟨fun o' ho' d hd hb=>?_,?_,fun he=>?_,fun he=>?_,cz p3⟩,fun q=>?_⟩
     ·rw[ho'] at p1
      simp only[List.all_eq_true,Bool.or_eq_true,Bool.not_eq_true'] at p1
      have:=p1 d (by simpa using hd)
      rw[hb] at this
      simp only[Bool.true_eq_false,false_or,beq_eq,decide_eq_false_iff_not] at this
      exact this
     ·rcases p2 with p2|p2
      ·exact .inr (hm _ p2)
      ·exact .inl (Yz p2.1.1)
     ·rcases p2 with p2|p2
      ·exact hm _ p2
      ·rw[p2.1.2] at he; cases he
     ·rcases p2 with p2|⟨_,p2⟩
      ·exact .inr (.inr (.inl (hm _ p2)))
      ·rcases p2 with ((p2|p2)|p2)|p2
       ·rw[p2] at he; cases he
       ·exact .inl p2
       ·exact .inr (.inl p2)
       ·exact .inr (.inr (.inr ⟨Lc.1 p2.1,p2.2⟩))
     ·rw[q] at p4; simp at p4
    ·exact g2 f (List.mem_cons_of_mem _ hf) x q
   ·exact List.pairwise_cons.2 ⟨fun x hx=>g2 e (List.mem_cons_self ..) x hx,g3⟩
  ·cases h
theorem Wp {X:Nat->Option Ext}{N:Nat}{GT:Nat->Option AV}{ops:Array Oper}{na:Nat}{L:List Ng}(h:NT P X N GT ops na L=true):XB P X N GT ops na L:=by
 simp only[NT,Bool.and_eq_true] at h
 obtain⟨⟨h1,h2⟩,h3⟩:=h
 obtain⟨g1,g2,g3⟩:=Uq L [] [] (fun j m h=>by cases h) h1
 have hnd:(L.map (·.1)).Nodup:=by
  rw[List.Nodup,List.pairwise_map]
  exact g3.imp fun h=>h.2
 exact⟨hnd,fun j hj=>Lc.1 (List.all_eq_true.1 h3 j (List.mem_range.2 hj)),g1,g3.imp fun h=>h.1⟩
section
variable {G:Ov P}{base:Nat}{w0:Start}{I:Cz}{μ:Mu}{st:St}{w:World}{N:Nat}{ts:TS}{a:Act}
theorem aM (hfol:P.follows .mixedOrders=true){call:Nat->List AV->St->M (AV × St)}(hcall:Ig P G.GT call){ops:Array Oper}{na:Nat}{L:List Ng}(hc:NT P G.X N G.GT ops na L=true)(H:Ar base w0 I μ st w)(hlo:st.lo<=st.c)(hF:JO N I μ ts a)(hG:Dl G.GT I){Q:TS × St->Prop}(h:(Fe G.E call st.c L [] ts { st with c:=st.c+na }).all Q){Qx:Exit->Act->World->Prop}(hQ:∀a' w',At base w0 N I μ st (fun _=>False) Q a a' w'->Qx .normal a' w')(id:Nat):(Code.region id ops true).wp P Qx a w:=by
 have hD:=Wp hc
 refine wp_region_any hfol ?_
 have H':Ar base w0 I μ { st with c:=st.c+na } w.drew:=(H.more (Nat.le_add_right _ _)).drew
 have hlen:L.length=ops.size:=by
  simp only[NT,Bool.and_eq_true] at hc
  exact Nat.eq_of_beq_eq_true hc.1.2
 refine dP (G:=G) (N:=N) hcall hD (s:=st.c) ops.size L [] [] ts ts { st with c:=st.c+na } a w.drew I μ Q _ (by simp[hlen]) (by simp) (by simp) (fun j hj=>?_) ?_ H' hlo (Nat.le_refl _) hF hG rfl trivial (fun e he id hid=>⟨H.Ur _ (Nat.le_add_right _ _),?_⟩) h fun a' w' hr=>hQ a' w' ?_
 ·simp only[List.map_nil,List.nil_append]
  refine⟨fun _=>hD.all j hj,fun _=>?_⟩
  simp[bH,hj]
 ·intro i o ho hl
  exfalso
  have hi:=(Array.getElem?_eq_some_iff.1 ho).1
  simp[ZH,hi] at hl
 ·cases hf:AA st.h (st.c+id) with
  |none=>rfl
  |some x=>have:=H.BQ _ _ hf; omega
 ·obtain⟨ts',st',J,ν,h1,h2,h3,h4,h5⟩:=hr
  refine⟨ts',st',J,ν,h1,h2,h3,⟨h4.JM,h4.le,fun p hp _=>h4.same p (Nat.lt_of_lt_of_le hp (Nat.le_add_right _ _)) (by show ¬st.c<=p; omega),Nat.le_trans (Nat.le_add_right _ _) h4.c,h4.lo,
   fun p hp _ hn=>h4.kept p (Nat.lt_of_lt_of_le hp (Nat.le_add_right _ _)) (by show ¬st.c<=p; omega) hn⟩,h5⟩
end
end Go.Am
end
section
namespace Go.Am
open Go Go.RowKit
variable {P:Program}
def DR (P:Program)(X:Nat->Option Ext)(N:Nat)(GT:Nat->Option AV):Ae->Code->Bool
 |.skip,c=>(match c with|.skip=>true|_=>false)
 |.region na l,c=>(match c with|.region _ ops false=>OI P X N GT ops na l|_=>false)
 |.draw na L,c=>(match c with|.region _ ops true=>NT P X N GT ops na L|_=>false)
 |.seq a b,c=>(match c with|.seq x y=>DR P X N GT a x&&DR P X N GT b y|_=>false)
 |.cond o a b,c=>(match c with|.cond v x y=>Sw N GT v o&&(DR P X N GT a x&&DR P X N GT b y)|_=>false)
 |.block id a,c=>(match c with|.block i x=>Nat.beq i id&&DR P X N GT a x|_=>false)
 |.loop a,c=>(match c with|.loop x=>DR P X N GT a x|_=>false)
 |.exit id,c=>(match c with|.exit i=>Nat.beq i id|_=>false)
 |.ret,c=>(match c with|.ret=>true|_=>false)
 |.bad,_=>true
def Vb:JL->Exit
 |.normal=>.normal
 |.exit i=>.exit i
 |.ret=>.ret
section
variable {G:Ov P}{base:Nat}{w0:Start}{N:Nat}
theorem At.imp {S:Nat->Prop}{I:Cz}{μ:Mu}{st:St}{Q R:TS × St->Prop}{a a':Act}{w':World}(h:At base w0 N I μ st S Q a a' w')(hq:∀r,Q r->R r):At base w0 N I μ st S R a a' w':=by
 obtain⟨ts',st',J,ν,h1,h2⟩:=h
 exact⟨ts',st',J,ν,hq _ h1,h2⟩
theorem dS (hfol:P.follows .mixedOrders=true){call:Nat->List AV->St->M (AV × St)}(hcall:Ig P G.GT call):∀(ac:Ae) (c:Code) (st:St) (ts:TS) (a:Act) (w:World) (I:Cz) (μ:Mu) (Q:JL × TS × St->Prop) (Qx:Exit->Act->World->Prop),
 DR P G.X N G.GT ac c=true->Ar base w0 I μ st w->st.lo<=st.c->JO N I μ ts a->Dl G.GT I->(BB G.E call ac ts st).all Q ->
 (∀ae a' w',At base w0 N I μ st (fun _=>False) (fun r=>Q (ae,r)) a a' w'->Qx (Vb ae) a' w')->c.wp P Qx a w:=by
 intro ac
 induction ac with
 |skip=>
  intro c st ts a w I μ Q Qx hc H hlo hF hG h hQ
  cases c <;> simp[DR] at hc
  exact wp_skip (hQ .normal a w ⟨ts,st,I,μ,h,H,hF,Nx.refl _ _ _ _,rfl⟩)
 |region na l=>
  intro c st ts a w I μ Q Qx hc H hlo hF hG h hQ
  simp only[DR] at hc
  split at hc
  ·rename_i id ops
   rw[BB,M.all_bind] at h
   exact YH hcall hc H hlo hF hG h (fun a' w' hr=>hQ .normal a' w' hr) id
  ·cases hc
 |draw na L=>
  intro c st ts a w I μ Q Qx hc H hlo hF hG h hQ
  simp only[DR] at hc
  split at hc
  ·rename_i id ops
   rw[BB,M.all_bind] at h
   exact aM hfol hcall hc H hlo hF hG h (fun a' w' hr=>hQ .normal a' w' hr) id
  ·cases hc
 |seq x y ihx ihy=>
  intro c st ts a w I μ Q Qx hc H hlo hF hG h hQ
  simp only[DR] at hc
  split at hc
  ·rw[Bool.and_eq_true] at hc
   rw[BB,M.all_bind] at h
   refine wp_seq (ihx _ st ts a w I μ _ _ hc.1 H hlo hF hG h fun ae a' w' hr=>?_)
   cases ae with
   |normal=>
    obtain⟨ts',st',J,ν,h1,h2,h3,h4,h5⟩:=hr
    exact ihy _ st' ts' a' w' J ν Q Qx hc.2 h2 (by rw[h4.lo]; exact Nat.le_trans hlo h4.c) h3 (hG.mono h4.JM) h1 fun ae a2 w2 hr=>hQ ae a2 w2 (At.step h4 h5 hr)
   |exit i=>exact hQ (.exit i) a' w' hr
   |ret=>exact hQ .ret a' w' hr
  ·cases hc
 |cond o x y ihx ihy=>
  intro c st ts a w I μ Q Qx hc H hlo hF hG h hQ
  simp only[DR] at hc
  split at hc
  ·rename_i v cx cy
   simp only[Bool.and_eq_true] at hc
   have hv:=Rj hF hG hc.1
   rw[BB] at h
   generalize ev ts o=u at h hv
   split at h
   ·rename_i t
    have:a.eval v=.bool t:=by
     generalize a.eval v=rv at hv
     cases hv; rfl
    refine wp_cond this ?_
    rw[cond_eq_ite] at h
    split
    ·rename_i ht
     rw[if_pos ht] at h
     exact ihx _ st ts a w I μ Q Qx hc.2.1 H hlo hF hG h hQ
    ·rename_i ht
     rw[if_neg ht] at h
     exact ihy _ st ts a w I μ Q Qx hc.2.2 H hlo hF hG h hQ
   ·exact h.elim
  ·cases hc
 |block id x ih=>
  intro c st ts a w I μ Q Qx hc H hlo hF hG h hQ
  simp only[DR] at hc
  split at hc
  ·rw[Bool.and_eq_true] at hc
   have:=Nat.eq_of_beq_eq_true hc.1
   subst this
   rw[BB,M.all_bind] at h
   refine wp_block (ih _ st ts a w I μ _ _ hc.2 H hlo hF hG h fun ae a' w' hr=>?_)
   cases ae with
   |normal=>exact hQ .normal a' w' hr
   |exit i=>
    rename_i id' _
    simp only[Vb,Exit.inBlock]
    split
    ·rename_i e
     subst e
     refine hQ .normal a' w' (hr.imp fun r hr=>?_)
     simp only[M.all,beq_eq,decide_true,cond_true] at hr
     exact hr
    ·rename_i e
     refine hQ (.exit i) a' w' (hr.imp fun r hr=>?_)
     simp only[M.all,beq_eq,e,decide_false,cond_false] at hr
     exact hr
   |ret=>exact hQ .ret a' w' hr
  ·cases hc
 |loop x ih=>
  intro c st ts a w I μ Q Qx hc H hlo hF hG h hQ
  simp only[DR] at hc
  split at hc
  ·rename_i cx
   rw[BB] at h
   have key:∀n st ts a w I μ,Ar base w0 I μ st w->st.lo<=st.c->JO N I μ ts a->Dl G.GT I->(DN (BB G.E call x) n ts st).all Q ->
    (∀ae a' w',At base w0 N I μ st (fun _=>False) (fun r=>Q (ae,r)) a a' w'->Qx (Vb ae) a' w')->Code.rounds P cx Qx n a w:=by
    intro n
    induction n with
    |zero=>intro st ts a w I μ H hlo hF hG h hQ; exact h.elim
    |succ n ihn=>
     intro st ts a w I μ H hlo hF hG h hQ
     rw[rounds_succ]
     rw[DN,M.all_bind] at h
     refine ih _ st ts a w I μ _ _ hc H hlo hF hG h fun ae a' w' hr=>?_
     cases ae with
     |normal=>
      obtain⟨ts',st',J,ν,h1,h2,h3,h4,h5⟩:=hr
      exact ihn st' ts' a' w' J ν h2 (by rw[h4.lo]; exact Nat.le_trans hlo h4.c) h3 (hG.mono h4.JM) h1 fun ae a2 w2 hr=>hQ ae a2 w2 (At.step h4 h5 hr)
     |exit i=>exact hQ (.exit i) a' w' hr
     |ret=>exact hQ .ret a' w' hr
   exact wp_loop_rounds _ (key _ st ts a w I μ H hlo hF hG h hQ)
  ·cases hc
 |exit id=>
  intro c st ts a w I μ Q Qx hc H hlo hF hG h hQ
  simp only[DR] at hc
  split at hc
  ·have:=Nat.eq_of_beq_eq_true hc
   subst this
   exact wp_exit (hQ (.exit _) a w ⟨ts,st,I,μ,h,H,hF,Nx.refl _ _ _ _,rfl⟩)
  ·cases hc
 |ret=>
  intro c st ts a w I μ Q Qx hc H hlo hF hG h hQ
  simp only[DR] at hc
  split at hc
  ·exact wp_ret (hQ .ret a w ⟨ts,st,I,μ,h,H,hF,Nx.refl _ _ _ _,rfl⟩)
  ·cases hc
 |bad=>
  intro c st ts a w I μ Q Qx hc H hlo hF hG h hQ
  exact h.elim
end
end Go.Am
end
section
namespace Go.Am
open Go Go.RowKit
variable {P:Program}
def Hw (P:Program)(N:Nat):List ResultVar->List TK->Bool
 |[],[]=>true
 |.tmp t::l,.tmp u::m=>Nat.beq t u&&Nat.blt t N&&Hw P N l m
 |.cell a t::l,.cell b agg::m=>Nat.beq a b&&Nat.blt a N&&RG P t agg&&Hw P N l m
 |_,_=>false
def Po (tmps:Array Value):ResultVar->Sem Value
 |.tmp t=>pure (tmps.getD t undef)
 |.cell a t=>do loadVar t (← asAddr (tmps.getD a undef))
def KT (tmps:Array Value):List ResultVar->Sem (List Value)
 |[]=>pure []
 |r::l=>do
  let v ← Po tmps r
  let vs ← KT tmps l
  pure (v::vs)
section
variable {base:Nat}{w0:Start}{I:Cz}{μ:Mu}{st:St}{w:World}{N:Nat}{ts:TS}{a:Act}
theorem KS (H:Ar base w0 I μ st w)(hF:JO N I μ ts a):∀{l:List ResultVar} {m:List TK} {vs:List AV},Hw P N l m=true->AP st.h ts m=some vs->∃rvs,(KT a.tmps l).run P w=.ok rvs w/\Ah I μ vs rvs
 |[],[],vs,hc,h=>by cases h; exact⟨[],rfl,.nil⟩
 |[],_::_,vs,hc,h=>by simp[Hw] at hc
 |.tmp t::l,[],vs,hc,h=>by simp[Hw] at hc
 |.cell t u::l,[],vs,hc,h=>by simp[Hw] at hc
 |.tmp t::l,.cell u g::m,vs,hc,h=>by simp[Hw] at hc
 |.cell t g::l,.tmp u::m,vs,hc,h=>by simp[Hw] at hc
 |.tmp t::l,.tmp u::m,vs,hc,h=>by
  simp only[Hw,Bool.and_eq_true] at hc
  have:=Nat.eq_of_beq_eq_true hc.1.1
  subst this
  have hb:=hc.1.2
  rw[blt_eq] at hb
  have hb:t<N:=by simpa using hb
  simp only[AP,Tg] at h
  split at h
  ·rename_i vs' hv
   cases h
   obtain⟨rvs,h1,h2⟩:=KS H hF hc.2 hv
   exact⟨a.eval (.tmp t)::rvs,by simp only[KT,Po,Sem.run_bind,Sem.run_pure,h1,Result.andThen_ok]; rfl,.cons _ _ _ _ (hF.get t hb) h2⟩
  ·cases h
 |.cell b t::l,.cell c agg::m,vs,hc,h=>by
  simp only[Hw,Bool.and_eq_true] at hc
  have:=Nat.eq_of_beq_eq_true hc.1.1.1
  subst this
  have hb:=hc.1.1.2
  rw[blt_eq] at hb
  have hb:b<N:=by simpa using hb
  simp only[AP,Tg] at h
  split at h
  ·rename_i v hv
   split at h
   ·rename_i vs' hvs
    cases h
    obtain⟨rvs,h1,h2⟩:=KS H hF hc.2 hvs
    have hp:=hF.get b hb
    obtain⟨rv,h3,h4⟩:=XI (P:=P) H hc.1.2 hp hv
    refine⟨rv::rvs,?_,.cons _ _ _ _ h4 h2⟩
    have h5:(Po a.tmps (.cell b t)).run P w=.ok rv w:=by
     have e1:a.eval (.tmp b)=a.tmps.getD b undef:=rfl
     rw[e1] at h3 hp
     simp only[Po]
     generalize a.tmps.getD b undef=rp at h3 hp
     generalize ts.get b=up at hp hv
     have:∃ad,rp=.pointer (some ad):=by
      cases agg with
      |some n=>
       simp only[GR,Option.map_eq_some_iff] at hv
       obtain⟨cs,q,_⟩:=hv
       cases hp <;> simp[Ac] at q <;> exact⟨_,rfl⟩
      |none=>
       simp only[GR] at hv
       cases hp <;> simp[AQ] at hv <;> exact⟨_,rfl⟩
     obtain⟨ad,rfl⟩:=this
     simp only[Instr.loadAt,Instr.sureAddr,Sem.run_bind,Sem.run_pure,Result.andThen_ok] at h3
     simp only[asAddr,Sem.run_bind,Sem.run_pure,Result.andThen_ok,h3]
    simp only[KT,Sem.run_bind,h5,h1,Result.andThen_ok,Sem.run_pure]
   ·cases h
  ·cases h
theorem RV (f:ResultVar->Sem Value)(tmps:Array Value)(hf:∀r,f r=Po tmps r):∀(l:List ResultVar),l.mapM f=KT tmps l
 |[]=>rfl
 |r::l=>by rw[List.mapM_cons,RV f tmps hf l,hf]; rfl
theorem OW (fn:Func)(tmps:Array Value)(w:World):(Go.results fn tmps).run P w=((KT tmps fn.results.toList).run P w).andThen fun vs w=>.ok (match vs with|[v]=>v|l=>.tuple l.toArray) w:=by
 unfold Go.results
 rw[Array.mapM_eq_mapM_toList,RV _ tmps (fun r=>by cases r <;> rfl)]
 simp only[Sem.run_bind,bind_pure_comp,Sem.run_map]
 cases (KT tmps fn.results.toList).run P w with
 |halt x w'=>rfl
 |ok vs w'=>
  simp only[Result.andThen_ok,Sem.run_pure]
  congr 1
  match vs with
  |[]=>rfl
  |[v]=>rfl
  |_::_::_=>simp
theorem Zr (H:Ar base w0 I μ st w)(hF:JO N I μ ts a){fn:Func}{rs:List TK}(hc:Hw P N fn.results.toList rs=true){v:AV}(h:results rs st.h ts=some v):∃rv,(Go.results fn a.tmps).run P w=.ok rv w/\Ad I μ v rv:=by
 unfold results at h
 split at h
 ·rename_i v' hv
  cases h
  obtain⟨rvs,h1,h2⟩:=KS (P:=P) H hF hc hv
  obtain⟨rv,rfl,h3⟩:=h2.one
  exact⟨rv,by rw[OW,h1]; rfl,h3⟩
 ·rename_i l hne hv
  cases h
  obtain⟨rvs,h1,h2⟩:=KS (P:=P) H hF hc hv
  refine⟨.tuple rvs.toArray,?_,.tuple _ _ h2⟩
  rw[OW,h1]
  have hl:=h2.length
  match rvs,l,hl with
  |[v],[u],_=>exact absurd rfl (hne u)
  |[],_,_=>rfl
  |_::_::_,_,_=>rfl
 ·cases h
theorem Pz:∀(l:List AV) (i:Nat) (t:TS) (j:Nat),i+l.length<2 ^ 15->(TS.Cy l i t).get j=if i<=j/\j<i+l.length then l.getD (j-i) .undef else t.get j
 |[],i,t,j,_=>by simp[TS.Cy]; omega
 |v::l,i,t,j,h=>by
  simp only[List.length_cons] at h
  rw[TS.Cy,Pz l (i+1) _ j (by omega),TS.PS _ _ _ _ (by omega)]
  by_cases h1:i=j
  ·subst h1
   rw[if_neg (by omega),if_pos rfl,if_pos (by simp)]
   simp
  ·by_cases h2:i+1<=j/\j<i+1+l.length
   ·rw[if_pos h2,if_pos (by simp; omega)]
    have:j-i=(j-(i+1))+1:=by omega
    rw[this,List.getD_cons_succ]
   ·rw[if_neg h2,if_neg h1,if_neg (by simp; omega)]
theorem ZX {args:List AV}{rargs:List Value}(ha:Ah I μ args rargs)(hN:N<2 ^ 14)(hl:args.length<2 ^ 14) :
 JO N I μ (TS.Cy args 0 .nil) { tmps:=rargs.toArray++Array.replicate (N-rargs.toArray.size) undef,defers:=[] }:=by
 have hlen:=ha.length
 refine⟨by simp; omega,by omega,fun t ht=>?_⟩
 rw[Pz _ _ _ _ (by omega)]
 simp only[Act.eval,Array.getD_eq_getD_getElem?]
 by_cases h:t<args.length
 ·rw[if_pos (by omega)]
  have h1:args[t]? =some args[t]:=List.getElem?_eq_getElem h
  obtain⟨rv,g1,g2⟩:=ha.get t _ h1
  have h2:(rargs.toArray++Array.replicate (N-rargs.toArray.size) undef)[t]? =some rv:=by
   rw[Array.getElem?_append_left (by simp; omega)]; simpa using g1
  rw[h2]
  simp only[Nat.sub_zero,List.getD_eq_getElem?_getD,h1,Option.getD_some]
  exact g2
 ·rw[if_neg (by omega)]
  have h2:(rargs.toArray++Array.replicate (N-rargs.toArray.size) undef)[t]?.getD undef=undef:=by
   rw[Array.getElem?_append_right (by simp; omega)]
   cases hx:(Array.replicate (N-rargs.toArray.size) undef)[t-rargs.toArray.size]? with
   |none=>rfl
   |some x=>
    have:=Array.mem_of_getElem? hx
    simp at this
    simp[this]
  rw[h2]
  exact .tuple [] [] .nil
end
end Go.Am
end
section
namespace Go.Am
open Go Go.RowKit
variable {P:Program}
def KL (ν:Mu)(c:Nat)(h:Heap)(r:Nat):Prop:=∃o x pl,c<=o/\AA h o=some x/\ν o=some pl/\pl.r=r
open Classical in
 noncomputable def Ml (J:Cz)(ν:Mu)(c:Nat)(h:Heap)(w:World):Cz where
 cell r off:=if KL ν c h r then w.cell? ⟨r,off,none⟩ else J.cell r off
 map r:=if KL ν c h r then w.heap[r]? else J.map r
section
variable {base:Nat}{w0:Start}{J K:Cz}{ν μ:Mu}{st:St}{w:World}{c:Nat}
theorem Sc (H:Ar base w0 J ν st w):J.le (Ml J ν c st.h w):=by
 refine⟨fun r off v h=>?_,fun r x h=>?_⟩
 ·simp only[Ml]
  split
  ·exact H.JM r off v h
  ·exact h
 ·simp only[Ml]
  split
  ·exact H.Da r x h
  ·exact h
theorem Ty {l m:List AV}:AV.Cq c (l++m)=(AV.Cq c l&&AV.Cq c m):=by
 induction l with
 |nil=>simp[AV.Cq]
 |cons x l ih=>simp[AV.Cq,ih,Bool.and_assoc]
theorem Vy {xs:List AV}(h:AV.Cq c xs=true):AV.Cq c (xs.flatMap AV.cells)=true:=by
 induction xs with
 |nil=>rfl
 |cons x xs ih=>
  simp only[AV.Cq,Bool.and_eq_true] at h
  rw[List.flatMap_cons,Ty,Bool.and_eq_true]
  refine⟨?_,ih h.2⟩
  cases x <;> first
   |(simp only[AV.cells,AV.Cq,Bool.and_true]; exact h.1)
   |(simp only[AV.cells]; have:=h.1; simp only[AV.Bt] at this; exact this)
 mutual
theorem SK (hμ:∀o pl,o<c->ν o=some pl->μ o=some pl) (hI:J.le K):∀{v:AV} {rv:Value},Ad J ν v rv->AV.Bt c v=true->Ad K μ v rv
 |_,_,.bool b,_=>.bool b
 |_,_,.int k n,_=>.int k n
 |_,_,.str l,_=>.str l
 |_,_,.CG,_=>.CG
 |_,_,.AO o off pl h,ho=>.AO o off pl (hμ _ _ (by simp only[AV.Bt,blt_eq,decide_eq_true_eq] at ho; exact ho) h)
 |_,_,.BA cs r off rvs h h1 t,ho=>.BA cs r off rvs (fun i hi=>hI.1 _ _ _ (h i hi)) h1 (Dh hμ hI t (by simp only[AV.Bt] at ho; exact ho))
 |_,_,.AB,_=>.AB
 |_,_,.list tight sz xs r off cap rvs h h1 hs t hc ht,ho=>.list tight sz xs r off cap rvs (fun i hi=>hI.1 _ _ _ (h i hi)) h1 hs (Dh hμ hI t (Vy (by simp only[AV.Bt] at ho; exact ho))) hc ht
 |_,_,.AY o off len cap pl a rcap h hz ha hl hc,ho=>.AY o off len cap pl a rcap (hμ _ _ (by simp only[AV.Bt,blt_eq,decide_eq_true_eq] at ho; exact ho) h) hz ha hl hc
 |_,_,.DY,_=>.DY
 |_,_,.Cr o pl h,ho=>.Cr o pl (hμ _ _ (by simp only[AV.Bt,blt_eq,decide_eq_true_eq] at ho; exact ho) h)
 |_,_,.Gq ks vs r es clock h hk hv,ho=>by
  simp only[AV.Bt,Bool.and_eq_true] at ho
  exact .Gq ks vs r es clock (hI.2 _ _ h) (Dh hμ hI hk ho.1) (Dh hμ hI hv ho.2)
 |_,_,.fn f a b ra rb ha hb,ho=>by
  simp only[AV.Bt,Bool.and_eq_true] at ho
  exact .fn f a b ra rb (Dh hμ hI ha ho.1) (Dh hμ hI hb ho.2)
 |_,_,.IW,_=>.IW
 |_,_,.iface t v rv h,ho=>.iface t v rv (SK hμ hI h (by simp only[AV.Bt] at ho; exact ho))
 |_,_,.DL,_=>.DL
 |_,_,.agg cs rvs h h1,ho=>.agg cs rvs (Dh hμ hI h (by simp only[AV.Bt] at ho; exact ho)) h1
 |_,_,.tuple cs rvs h,ho=>.tuple cs rvs (Dh hμ hI h (by simp only[AV.Bt] at ho; exact ho))
theorem Dh (hμ:∀o pl,o<c->ν o=some pl->μ o=some pl) (hI:J.le K):∀{l:List AV} {rl:List Value},Ah J ν l rl->AV.Cq c l=true->Ah K μ l rl
 |_,_,.nil,_=>.nil
 |_,_,.cons v rv l rl h t,ho=>by
  simp only[AV.Cq,Bool.and_eq_true] at ho
  exact .cons v rv l rl (SK hμ hI h ho.1) (Dh hμ hI t ho.2)
end
theorem De {f:AV->Option AV}(hf:∀v v' rv,f v=some v'->Ad J ν v rv->Ad K μ v' rv):∀{l l':List AV} {rl:List Value},CO f l=some l'->Ah J ν l rl->Ah K μ l' rl
 |[],l',rl,h,hv=>by cases h; cases hv; exact .nil
 |v::l,l',rl,h,hv=>by
  simp only[CO] at h
  split at h
  ·rename_i v' h1
   split at h
   ·rename_i l2 h2
    cases h
    cases hv with
    |cons _ rv _ rl hv ht=>exact .cons _ _ _ _ (hf v v' rv h1 hv) (De hf h2 ht)
   ·cases h
  ·cases h
theorem Ms {f:AV->Option AV}:∀{l l':List AV},CO f l=some l'->l'.length=l.length
 |[],l',h=>by cases h; rfl
 |v::l,l',h=>by
  simp only[CO] at h
  split at h
  ·split at h
   ·rename_i h2; cases h; simp[Ms h2]
   ·cases h
  ·cases h
theorem Rm {v:AV}{rv:Value}(h:Ad K μ v rv)(h1:rv.oneCell'=true):v.cells=[v]:=by
 cases h <;> first|rfl|(simp[Value.oneCell'] at h1)
theorem OT {f:AV->Option AV}(hf:∀v v' rv,f v=some v'->Ad J ν v rv->Ad K μ v' rv)(hagg:∀cs x,f (.agg cs)=some x->∃cs',x=.agg cs'):∀{xs xs':List AV} {rl:List Value},CO f xs=some xs'->Ah J ν (xs.flatMap AV.cells) rl->One rl ->
 Ah K μ (xs'.flatMap AV.cells) rl/\xs'.map (fun x=>x.cells.length)=xs.map (fun x=>x.cells.length)
 |[],xs',rl,h,hv,_=>by cases h; cases hv; exact⟨.nil,rfl⟩
 |x::xs,xs',rl,h,hv,h1=>by
  simp only[CO] at h
  split at h
  ·rename_i x' hx
   split at h
   ·rename_i xs2 hxs
    cases h
    rw[List.flatMap_cons] at hv
    obtain⟨g1,g2⟩:=hv.split
    obtain⟨i1,i2⟩:=OT hf hagg hxs g2 (h1.drop _)
    have key:Ah K μ x'.cells (rl.take x.cells.length)/\x'.cells.length=x.cells.length:=by
     have hone:=h1.take x.cells.length
     by_cases hx2:∃cs,x=.agg cs
     ·obtain⟨cs,rfl⟩:=hx2
      obtain⟨cs',rfl⟩:=hagg cs x' hx
      have hr:=hf _ _ _ hx (.agg cs _ g1 hone)
      generalize hq:(Value.agg (rl.take (AV.agg cs).cells.length).toArray)=q at hr
      cases hr with
      |agg _ rvs hv' _=>
       have:rvs=rl.take (AV.agg cs).cells.length:=by
        injection hq with hq
        have:=congrArg Array.toList hq
        simpa using this.symm
       subst this
       exact⟨hv',by have e1:=hv'.length; have e2:=g1.length; show cs'.length=_; rw[e1]; exact e2.symm⟩
     ·have hc:x.cells=[x]:=by
       cases x <;> first|rfl|exact absurd ⟨_,rfl⟩ hx2
      rw[hc] at g1 hone ⊢
      obtain⟨r,hr,hxr⟩:=g1.one
      rw[hr] at hone ⊢
      have h2:=hf x x' r hx hxr
      have h3:=Rm h2 (hone r (by simp))
      rw[h3]
      exact⟨.cons _ _ _ _ h2 .nil,rfl⟩
    refine⟨?_,by simp only[List.map_cons,key.2,i2]⟩
    rw[List.flatMap_cons]
    have:=key.1.append i1
    rwa [List.take_append_drop] at this
   ·cases h
  ·cases h
theorem XF {sz:Nat}(hsz:0<sz):∀(n:Nat) (cs:List AV),cs.length=n*sz->(∀x∈cs,x.cells=[x])->(rows sz n cs).flatMap AV.cells=cs/\(rows sz n cs).length=n/\∀x∈rows sz n cs,x.cells.length=sz
 |0,cs,h,_=>by
  have:cs=[]:=List.eq_nil_of_length_eq_zero (by simpa using h)
  subst this
  exact⟨rfl,rfl,by simp[rows]⟩
 |n+1,cs,h,h1=>by
  have hlen:(cs.drop sz).length=n*sz:=by rw[List.length_drop,h,Nat.add_mul]; omega
  obtain⟨e1,e2,e3⟩:=XF hsz n (cs.drop sz) hlen fun x hx=>h1 x (List.mem_of_mem_drop hx)
  have htake:(cs.take sz).length=sz:=by rw[List.length_take,h,Nat.add_mul]; omega
  have hfirst:(bif Nat.beq sz 1 then cs.headD .undef else .agg (cs.take sz)).cells=cs.take sz:=by
   rw[beq_eq,cond_eq_ite]
   by_cases hs:sz=1
   ·subst hs
    simp only[decide_true,if_true]
    cases cs with
    |nil=>simp at htake
    |cons x cs=>simp[h1 x (by simp)]
   ·simp only[hs,decide_false,Bool.false_eq_true,if_false]
    rfl
  refine⟨?_,by simp[rows,e2],fun x hx=>?_⟩
  ·rw[rows,List.flatMap_cons,hfirst,e1,List.take_append_drop]
  ·rw[rows,List.mem_cons] at hx
   rcases hx with hx|hx
   ·rw[hx,hfirst,htake]
   ·exact e3 x hx
end
end Go.Am
end
section
namespace Go.Am
open Go Go.RowKit
variable {P:Program}
section
variable {base:Nat}{w0:Start}{J:Cz}{ν μ:Mu}{st:St}{w:World}{c:Nat}
theorem ZR {c:Nat}{h:Heap}{n:Nat}{cs:List AV}{x:AV}(hx:CZ c h n (.agg cs)=some x):∃cs',x=.agg cs':=by
 cases n with
 |zero=>simp[CZ] at hx
 |succ n=>
  simp only[CZ,cond_eq_ite] at hx
  split at hx
  ·cases hx; exact⟨_,rfl⟩
  ·split at hx
   ·cases hx; exact⟨_,rfl⟩
   ·cases hx
theorem UC {o:Nat}{x:Ai}{pl:Pl}(ho:c<=o)(hf:AA st.h o=some x)(hp:ν o=some pl)(i:Nat):(Ml J ν c st.h w).cell pl.r i=w.cell? ⟨pl.r,i,none⟩:=by
 simp only[Ml]
 rw[if_pos ⟨o,x,pl,ho,hf,hp,rfl⟩]
theorem bZ {o:Nat}{x:Ai}{pl:Pl}(ho:c<=o)(hf:AA st.h o=some x)(hp:ν o=some pl){es:Array MapEntry}{cl:Nat}(hw:w.heap[pl.r]? =some (.map es cl)):(Ml J ν c st.h w).map pl.r=some (.map es cl):=by
 simp only[Ml]
 rw[if_pos ⟨o,x,pl,ho,hf,hp,rfl⟩,hw]
theorem Rv (H:Ar base w0 J ν st w)(hμ:∀o pl,o<c->ν o=some pl->μ o=some pl):∀(n:Nat) (v v':AV) (rv:Value),CZ c st.h n v=some v'->Ad J ν v rv->Ad (Ml J ν c st.h w) μ v' rv:=by
 intro n
 induction n with
 |zero=>intro v v' rv h; simp[CZ] at h
 |succ n ih=>
  intro v v' rv h hv
  have hI:=Sc (c:=c) H
  simp only[CZ,cond_eq_ite] at h
  split at h
  ·rename_i ho
   cases h
   exact SK hμ hI hv ho
  ·rename_i hnew
   cases hv with
   |AO o off pl hp=>
    simp only[AV.Bt,blt_eq,decide_eq_true_eq] at hnew
    simp only at h
    split at h
    ·rename_i ty sz cs ext hf
     rw[ble_eq] at h
     split at h
     ·rename_i hle
      simp only[decide_eq_true_eq] at hle
      split at h
      ·rename_i cs' hcs
       cases h
       obtain⟨pl',cc,fz,rvs,q1,hplsz,hn,he,hw,hbb,hfz,hvr,hone,hcc⟩:=H.cells hf hp
       rw[hp] at q1; cases q1
       refine .BA cs' pl.r (pl.b+off) (rvs.drop off) (fun i hi=>?_) (hone.drop _) (De ih hcs (hvr.drop off))
       simp only[List.length_drop] at hi
       rw[UC (by omega) hf hp,CX hw,Nat.add_assoc,hcc (off+i) (by omega)]
       simp
      ·cases h
     ·cases h
    ·cases h
   |AY o off len cap pl a rcap hp hz ha hl hc=>
    simp only[AV.Bt,blt_eq,decide_eq_true_eq] at hnew
    simp only at h
    split at h
    ·rename_i ty sz cs ext hf
     rw[blt_eq,ble_eq] at h
     split at h
     ·rename_i hle
      simp only[Bool.and_eq_true,decide_eq_true_eq] at hle
      split at h
      ·rename_i cs' hcs
       cases h
       obtain⟨pl',cc,fz,rvs,q1,hplsz,hn,he,hw,hbb,hfz,hvr,hone,hcc⟩:=H.cells hf hp
       rw[hp] at q1; cases q1
       have hr:=De ih hcs ((hvr.drop off).take (len*sz))
       have hone':One ((rvs.drop off).take (len*sz)):=(hone.drop off).take _
       have hlr:=hvr.length
       have hlen:cs'.length=len*sz:=by
        rw[hr.length]; simp only[List.length_take,List.length_drop]; omega
       have hcell:∀x∈cs',x.cells=[x]:=fun x hx=>by
        obtain⟨i,hi⟩:=List.getElem?_of_mem hx
        obtain⟨rx,h1,h2⟩:=hr.get i x hi
        exact Rm h2 (hone' rx (List.mem_of_getElem? h1))
       obtain⟨r1,r2,r3⟩:=XF hle.1 len cs' hlen hcell
       have fin:∀tt:Bool,(tt=true->rcap=len)->Ad (Ml J ν c st.h w) μ (.list tt sz (rows sz len cs')) (.slice (some a) len rcap):=by
        intro tt hcap
        have hcap':tt=true->rcap=(rows sz len cs').length:=by rw[r2]; exact hcap
        by_cases hpos:0<rcap
        ·rw[ha.2 hpos]
         have:=Ad.list (I:=Ml J ν c st.h w) (μ:=μ) tt sz (rows sz len cs') pl.r (pl.b+off) rcap ((rvs.drop off).take (len*sz)) (fun i hi=>by
          simp only[List.length_take,List.length_drop] at hi
          rw[UC (by omega) hf hp,CX hw,Nat.add_assoc,hcc (off+i) (by omega)]
          simp) hone' r3 (by rw[r1]; exact hr) (by rw[r2]; exact hl) hcap'
         rw[r2] at this
         exact this
        ·have h0:len=0:=by omega
         subst h0
         obtain⟨ab,ao,asp⟩:=a
         have hsp:=ha.1
         simp only at hsp
         subst hsp
         exact Ad.list (I:=Ml J ν c st.h w) (μ:=μ) tt sz (rows sz 0 cs') ab ao rcap [] (fun i hi=>by simp at hi) (fun v hv=>by cases hv) r3 (by simp only[rows,List.flatMap_nil]; exact .nil) (by rw[r2]; exact hl) hcap'
       refine fin _ fun q=>?_
       cases cap with
       |none=>cases q
       |some k=>
        have q:=Nat.eq_of_beq_eq_true q
        obtain⟨s1,s2⟩:=hc
        omega
      ·cases h
     ·cases h
    ·cases h
   |Cr o pl hp=>
    simp only[AV.Bt,blt_eq,decide_eq_true_eq] at hnew
    simp only at h
    split at h
    ·rename_i ks vs bs clock hf
     obtain⟨pl',es,q1,_,_,_,hw,hks,hvs,_,_,_⟩:=H.maps hf hp
     rw[hp] at q1; cases q1
     split at h
     ·rename_i ks' hk
      split at h
      ·rename_i vs' hvv
       cases h
       exact .Gq ks' vs' pl.r es clock (bZ (by omega) hf hp hw) (De ih hk hks) (De ih hvv hvs)
      ·cases h
     ·cases h
    ·cases h
   |BA cs r off rvs hc h1 t=>
    simp only at h
    split at h
    ·rename_i cs' hcs
     cases h
     exact .BA cs' r off rvs (fun i hi=>hI.1 _ _ _ (hc i hi)) h1 (De ih hcs t)
    ·cases h
   |list tight sz xs r off cap rvs hc h1 hs t hcap ht=>
    simp only at h
    split at h
    ·rename_i xs' hxs
     cases h
     obtain⟨g1,g2⟩:=OT ih (fun cs x hx=>ZR hx) hxs t h1
     have hl:=Ms hxs
     have:=Ad.list (I:=Ml J ν c st.h w) (μ:=μ) tight sz xs' r off cap rvs (fun i hi=>hI.1 _ _ _ (hc i hi)) h1 (fun x hx=>by
      have hm:x.cells.length∈xs'.map (fun x=>x.cells.length):=List.mem_map.2 ⟨x,hx,rfl⟩
      rw[g2] at hm
      obtain⟨y,hy,hye⟩:=List.mem_map.1 hm
      rw[← hye]; exact hs y hy) g1 (by omega) (fun q=>by rw[hl]; exact ht q)
     rw[hl] at this
     exact this
    ·cases h
   |Gq ks vs r es clock hm hk hv'=>
    simp only at h
    split at h
    ·rename_i ks' h1
     split at h
     ·rename_i vs' h2
      cases h
      exact .Gq ks' vs' r es clock (hI.2 _ _ hm) (De ih h1 hk) (De ih h2 hv')
     ·cases h
    ·cases h
   |fn f a b ra rb ha hb=>
    simp only at h
    split at h
    ·rename_i a' h1
     split at h
     ·rename_i b' h2
      cases h
      exact .fn f a' b' ra rb (De ih h1 ha) (De ih h2 hb)
     ·cases h
    ·cases h
   |iface t u ru hu=>
    simp only at h
    split at h
    ·rename_i u' h1
     cases h
     exact .iface t u' ru (ih u u' ru h1 hu)
    ·cases h
   |agg cs rvs hcs h1=>
    simp only at h
    split at h
    ·rename_i cs' h2
     cases h
     exact .agg cs' rvs (De ih h2 hcs) h1
    ·cases h
   |tuple cs rvs hcs=>
    simp only at h
    split at h
    ·rename_i cs' h2
     cases h
     exact .tuple cs' rvs (De ih h2 hcs)
    ·cases h
   |_=>simp at h
end
end Go.Am
end
section
namespace Go.Am
open Go Go.RowKit
variable {P:Program}
structure ax (P:Program)(X:Nat->Option Ext)(GT:Nat->Option AV)(f:Nat)(fn:BO):Prop where
 ok:∃rf c,P.funcs[f]? =some rf/\rf.body=some c/\(rf.name == "runtime.NumGoroutine")=false/\DR P X rf.ntmps GT fn.body c=true/\Hw P rf.ntmps rf.results.toList fn.results=true/\rf.ntmps<2 ^ 14
def Mk (P:Program)(GT:Nat->Option AV)(f:Nat)(g:Heap->List AV->Option AV):Prop:=
 ∀(args:List AV) (v:AV) (st:St),g st.h args=some v->∀(base:Nat) (w0:Start) (I:Cz) (μ:Mu) (w:World) (rargs:List Value),Dl GT I->Ar base w0 I μ st w->Ah I μ args rargs ->
  (∀W,(callFunc f rargs.toArray).run P W=.ok (.enter f rargs.toArray) W)/\Calls P f rargs.toArray w fun e w'=>∃rv K,e=.returned rv/\Ad K μ v rv/\Ar base w0 K μ st w'/\I.le K
structure Sound (G:Ov P):Prop where
 mi:P.follows .mixedOrders=true
 code:∀f fn,G.E.code f=some fn->ax P G.X G.GT f fn
 QN:∀f g,G.E.QN f=some g->Mk P G.GT f g
section
variable {G:Ov P}{base:Nat}{w0:Start}{I J K:Cz}{μ ν:Mu}{st:St}{w w':World}
theorem Il {f:Nat}{rf:Func}{c:Code}(hf:P.funcs[f]? =some rf)(hb:rf.body=some c)(hn:(rf.name == "runtime.NumGoroutine")=false)(args:Array Value)(W:World):(callFunc f args).run P W=.ok (.enter f args) W:=by
 have h1:rf.name ≠ "runtime.NumGoroutine":=by simpa using hn
 simp[callFunc,hf,h1,hb,Result.andThen]
theorem Ar.grown (H:Ar base w0 I μ st w)(hb:Below w.heap.size w w'):Ar base w0 I μ st w':=by
 have hblk:∀r,r<w.heap.size->w'.heap[r]? =w.heap[r]?:=fun r hr=>hb.block r hr
 refine⟨H.below.trans (hb.mono H.TL),Nat.le_trans H.TL hb.size,fun r off v h=>?_,fun r es h=>?_,H.Ur,fun o ob pl h hp=>?_,H.lo,H.sep,H.Ll,H.HV,H.BQ,H.OC⟩
 ·have:=H.JM r off v h
  rw[World.cell?_of_block (w:=w) (hblk r (World.block_lt_of_cell? _ _ this))]; exact this
 ·have:=H.Da r es h
  rw[hblk r (JG this)]; exact this
 ·have:=H.obj o ob pl h hp
  exact this.world (hblk _ this.lt)
theorem Ar.fresh (H:Ar base w0 I μ st w)(arr:Array Value)(ty:TypeId):∃K,Ar base w0 K μ st (w.alloc (.cells arr ty))/\I.le K/\∀i (hi:i<arr.size),K.cell w.heap.size i=some arr[i]:=by
 have hb:Below w.heap.size w (w.alloc (.cells arr ty)):=(Below.refl _ w).alloc (Nat.le_refl _) _
 have G:=H.grown hb
 have hnew:∀off,(w.alloc (.cells arr ty)).cell? ⟨w.heap.size,off,none⟩=arr[off]?:=fun off=>by
  exact World.cell?_alloc_new w arr ty off
 have hno:∀off v,I.cell w.heap.size off=some v->False:=fun off v h=>by
  have:=World.block_lt_of_cell? _ _ (H.JM _ _ _ h)
  simp at this
 obtain⟨K,hc,hm⟩:∃K:Cz,(∀r off,K.cell r off=if r=w.heap.size then arr[off]? else I.cell r off)/\K.map=I.map:=⟨⟨fun r off=>if r=w.heap.size then arr[off]? else I.cell r off,I.map⟩,fun _ _=>rfl,rfl⟩
 have hle:I.le K:=⟨fun r off v h=>by
  rw[hc]; split
  ·rename_i e; subst e; exact (hno _ _ h).elim
  ·exact h,fun r x h=>by rw[hm]; exact h⟩
 refine⟨K,⟨G.below,G.TL,fun r off v h=>?_,fun r es h=>G.Da r es (by rw[hm] at h; exact h),G.Ur,fun o ob pl h hp=>(G.obj o ob pl h hp).mono hle (fun _ _ h=>h),G.lo,G.sep,fun o x pl i h1 h2 h3 h4=>?_,fun o x pl h1 h2=>by rw[hm]; exact G.HV o x pl h1 h2,G.BQ,fun r hr=>?_⟩,hle,fun i hi=>?_⟩
 ·rw[hc] at h
  split at h
  ·rename_i e; subst e; rw[hnew]; exact h
  ·exact G.JM r off v h
 ·rw[hc,if_neg (Nat.ne_of_lt (H.obj o x pl h1 h2).lt)]
  exact G.Ll o x pl i h1 h2 h3 h4
 ·obtain⟨g1,g2⟩:=G.OC r hr
  refine⟨fun off=>?_,by rw[hm]; exact g2⟩
  rw[hc,if_neg (by have:=H.TL; omega)]; exact g1 off
 ·rw[hc,if_pos rfl]; simp[hi]
theorem Li (hS:Sound G){call:Nat->List AV->St->M (AV × St)}(hcall:Ig P G.GT call){f:Nat}{fn:BO}(hf:ax P G.X G.GT f fn){args:List AV}{Q:AV × St->Prop}(h:(DJ G.E call fn args st).all Q)(H:Ar base w0 I μ st w)(hlo:st.lo<=st.c)(hG:Dl G.GT I){rargs:List Value}(ha:Ah I μ args rargs):(∀W,(callFunc f rargs.toArray).run P W=.ok (.enter f rargs.toArray) W) /\
 Calls P f rargs.toArray w fun e w'=>∃rv v st' J ν,e=.returned rv/\Q (v,st')/\Ar base w0 J ν st' w'/\Ad J ν v rv/\Nx I μ st (fun _=>False) J ν st':=by
 obtain⟨rf,c,hf1,hf2,hf3,hf4,hf5,hf6⟩:=hf.ok
 refine⟨fun W=>Il hf1 hf2 hf3 _ W,?_⟩
 unfold DJ at h
 rw[ble_eq,cond_eq_ite] at h
 split at h
 ·rename_i hle
  simp only[decide_eq_true_eq] at hle
  rw[M.all_bind] at h
  have hF:=ZX ha hf6 (by omega)
  refine calls_of_wp hf1 hf2 (dS hS.mi hcall fn.body c st _ _ w I μ _ _ hf4 H hlo hF hG h fun ae a' w' hr=>?_)
  obtain⟨ts',st',J,ν,h1,h2,h3,h4,h5⟩:=hr
  have key:∀v,results fn.results st'.h ts'=some v->Q (v,st')->a'.defers=[]/\∃rv,(Go.results rf a'.tmps).run P w'=.ok rv w'/\∃rv' v st' J ν,Ending.returned rv=.returned rv'/\Q (v,st')/\Ar base w0 J ν st' w'/\Ad J ν v rv'/\Nx I μ st (fun _=>False) J ν st':=by
   intro v hv hq
   obtain⟨rv,g1,g2⟩:=Zr (P:=P) h2 h3 hf5 hv
   exact⟨h5,rv,g1,rv,v,st',J,ν,rfl,hq,h2,g2,h4⟩
  unfold leave at h1
  cases ae with
  |normal=>
   simp only at h1
   split at h1
   ·rename_i v hv; exact key v hv h1
   ·exact h1.elim
  |exit i=>exact h1.elim
  |ret=>
   simp only at h1
   split at h1
   ·rename_i v hv; exact key v hv h1
   ·exact h1.elim
 ·exact h.elim
theorem SG {v:AV}{rv:Value}{st':St}{c:Nat}{v':AV}(H:Ar base w0 I μ st w)(Hb:Ar w.heap.size ⟨w,I⟩ J ν st' w')(hIJ:I.le J)(hv:Ad J ν v rv)(ht:CZ c st'.h CJ v=some v')(hsame:∀o pl,o<c->ν o=some pl->μ o=some pl)(hlo:st'.lo<=c):∃K,Ar base w0 K μ st w'/\Ad K μ v' rv/\I.le K:=by
 have Hg:=H.grown (w':=w') Hb.below
 have hle:=Sc (c:=c) Hb
 have hIK:=Cz.le_trans hIJ hle
 have hnewb:∀r,KL ν c st'.h r->w.heap.size<=r:=fun r ⟨o,x,pl,h1,h2,h3,h4⟩=>by rw[← h4]; exact Hb.lo o x pl h2 h3 (Nat.le_trans hlo h1)
 have hold:∀r,r<w.heap.size->(∀off,(Ml J ν c st'.h w').cell r off=I.cell r off)/\(Ml J ν c st'.h w').map r=I.map r:=fun r hr=>by
  obtain⟨g1,g2⟩:=Hb.OC r hr
  have hn:¬KL ν c st'.h r:=fun hn=>by have:=hnewb r hn; omega
  refine⟨fun off=>?_,?_⟩
  ·simp only[Ml,if_neg hn]; exact g1 off
  ·simp only[Ml,if_neg hn]; exact g2
 refine⟨Ml J ν c st'.h w',⟨Hg.below,Hg.TL,fun r off u h=>?_,fun r es h=>?_,Hg.Ur,fun o ob pl h hp=>(Hg.obj o ob pl h hp).mono hIK (fun _ _ h=>h),Hg.lo,Hg.sep,fun o x pl i h1 h2 h3 h4=>?_,fun o x pl h1 h2=>?_,Hg.BQ,fun r hr=>?_⟩,Rv Hb hsame _ _ _ _ ht hv,hIK⟩
 ·simp only[Ml] at h
  split at h
  ·exact h
  ·exact Hb.JM r off u h
 ·simp only[Ml] at h
  split at h
  ·exact h
  ·exact Hb.Da r es h
 ·rw[(hold _ (H.obj o x pl h1 h2).lt).1 i]; exact H.Ll o x pl i h1 h2 h3 h4
 ·rw[(hold _ (H.obj o x pl h1 h2).lt).2]; exact H.HV o x pl h1 h2
 ·obtain⟨g1,g2⟩:=hold r (Nat.lt_of_lt_of_le hr H.TL)
  obtain⟨k1,k2⟩:=H.OC r hr
  exact⟨fun off=>(g1 off).trans (k1 off),g2.trans k2⟩
end
end Go.Am
end
section
namespace Go.Am
open Go Go.RowKit
variable {P:Program}
section
variable {G:Ov P}{base:Nat}{w0:Start}{I J K:Cz}{μ ν:Mu}{st:St}{w w':World}
theorem Hr {c:Nat}:∀{h:Heap} {p:Nat},p<c->AA (Gg c h) p=AA h p
 |[],p,_=>rfl
 |(i,x)::h,p,hp=>by
  simp only[Gg,ble_eq,cond_eq_ite,decide_eq_true_eq]
  split
  ·rw[Hr hp,AJ,if_neg (by omega)]
  ·rw[AJ,AJ,Hr hp]
theorem QO {c:Nat}:∀{h:Heap} {p:Nat} {x:Ai},holds c h=true->AA h p=some x->p<c/\Ai.Bt c x=true
 |[],p,x,_,h=>by simp[AA] at h
 |(i,y)::h,p,x,hh,hf=>by
  simp only[holds,Bool.and_eq_true,blt_eq,decide_eq_true_eq] at hh
  rw[AJ] at hf
  split at hf
  ·rename_i e; cases hf; subst e; exact hh.1
  ·exact QO hh.2 hf
theorem Zf {c:Nat}{pl:Pl}{ob:Ai}(hμ:∀o pl,o<c->ν o=some pl->μ o=some pl)(hI:J.le K)(h:KJ J ν w pl ob)(ho:Ai.Bt c ob=true):KJ K μ w pl ob:=by
 cases h with
 |cells ty sz cs ext cc fz rvs hsz hn he hw hb hf h h1 hc=>exact .cells ty sz cs ext cc fz rvs hsz hn he hw hb hf (Dh hμ hI h ho) h1 hc
 |map ks vs bs clock es hb hn he hw hk hv hbs hs hc=>
  simp only[Ai.Bt,Bool.and_eq_true] at ho
  exact .map ks vs bs clock es hb hn he hw (Dh hμ hI hk ho.1) (Dh hμ hI hv ho.2) hbs hs hc
 |Gr since seen stepped hb hn he hw=>exact .Gr since seen stepped hb hn he hw
 |iter o pm since seen stepped hb hn he hm hw=>
  simp only[Ai.Bt,blt_eq,decide_eq_true_eq] at ho
  exact .iter o pm since seen stepped hb hn he (hμ _ _ ho hm) hw
def MH (ν:Mu)(c:Nat):Mu:=fun o=>if o<c then ν o else none
theorem gI {c:Nat}{v v':AV}{rv:Value}(H:Ar base w0 J ν st w)(hv:Ad J ν v rv)(ht:CZ c st.h CJ v=some v')(hh:holds c (Gg c st.h)=true)(hlo:st.lo<=c) :
 ∃K,Ar base w0 K (MH ν c) { st with h:=Gg c st.h,c:=c } w/\Ad K (MH ν c) v' rv/\J.le K:=by
 have hle:=Sc (c:=c) H
 have hμ:∀o pl,o<c->ν o=some pl->MH ν c o=some pl:=fun o pl h1 h2=>by simp[MH,h1,h2]
 have hcut:∀o pl,MH ν c o=some pl->ν o=some pl:=fun o pl h=>by
  unfold MH at h; split at h
  ·exact h
  ·cases h
 have hfd:∀o x,AA (Gg c st.h) o=some x->o<c/\AA st.h o=some x/\Ai.Bt c x=true:=fun o x h=>by
  obtain⟨h1,h2⟩:=QO hh h
  exact⟨h1,by rw[← Hr h1]; exact h,h2⟩
 have hnb:∀o x pl,o<c->AA st.h o=some x->ν o=some pl->¬KL ν c st.h pl.r:=fun o x pl h1 h2 h3 ⟨o',x',pl',g1,g2,g3,g4⟩=>H.sep o' o x' x pl' pl g2 h2 g3 h3 (by omega) g4
 refine⟨Ml J ν c st.h w,⟨H.below,H.TL,fun r off u h=>?_,fun r es h=>?_,fun o ho=>?_,fun o ob pl h hp=>?_,fun o ob pl h hp=>?_,fun o p x y pl pm h1 h2 h3 h4=>?_,fun o x pl i h1 h2 h3 h4=>?_,fun o x pl h1 h2=>?_,fun o x h=>(hfd o x h).1,fun r hr=>?_⟩,Rv H hμ _ _ _ _ ht hv,hle⟩
 ·simp only[Ml] at h
  split at h
  ·exact h
  ·exact H.JM r off u h
 ·simp only[Ml] at h
  split at h
  ·exact h
  ·exact H.Da r es h
 ·simp only at ho
  simp only[MH]
  rw[if_neg (by omega)]
 ·obtain⟨h1,h2,h3⟩:=hfd o ob h
  exact Zf hμ hle (H.obj o ob pl h2 (hcut o pl hp)) h3
 ·exact H.lo o ob pl (hfd o ob h).2.1 (hcut o pl hp)
 ·exact H.sep o p x y pl pm (hfd o x h1).2.1 (hfd p y h2).2.1 (hcut _ _ h3) (hcut _ _ h4)
 ·obtain⟨g1,g2,_⟩:=hfd o x h1
  simp only[Ml,if_neg (hnb o x pl g1 g2 (hcut _ _ h2))]
  exact H.Ll o x pl i g2 (hcut _ _ h2) h3 h4
 ·obtain⟨g1,g2,_⟩:=hfd o x h1
  simp only[Ml,if_neg (hnb o x pl g1 g2 (hcut _ _ h2))]
  exact H.HV o x pl g2 (hcut _ _ h2)
 ·have hn:¬KL ν c st.h r:=fun⟨o,x,pl,g1,g2,g3,g4⟩=>by
   have:=H.lo o x pl g2 g3 (Nat.le_trans hlo g1)
   omega
  simp only[Ml,if_neg hn]
  exact H.OC r hr
theorem VN {α:Type}{f:α->Bool}:∀{m:M α},m.TC f=true->m.all fun a=>f a=true
 |.ret a,h=>h
 |.fail,h=>by cases h
 |.ask n k,h=>fun i hi=>VN (List.all_eq_true.1 h i (List.mem_range.2 (by omega)))
theorem Xf {α:Type}{Q R:α->Prop}:∀{m:M α},m.all Q->m.all R->m.all fun a=>Q a/\R a
 |.ret a,h,k=>⟨h,k⟩
 |.fail,h,_=>h
 |.ask n k,h,h'=>fun i hi=>Xf (h i hi) (h' i hi)
theorem ND {c:Nat}{st:St}{f:AV × St->Bool}:∀{m:M (AV × St)},(m.bind (Bd c st)).TC f=true->(m.bind (Bd c st)).all fun r=>r.2=st
 |.ret r,h=>by
  simp only[M.bind,Bd] at h ⊢
  split
  ·rfl
  ·rename_i e; rw[e] at h; cases h
 |.fail,h=>by cases h
 |.ask n k,h=>fun i hi=>ND (List.all_eq_true.1 h i (List.mem_range.2 (by omega)))
theorem Qp {c:Nat}{st:St}{m:M (AV × St)}{Q:AV × St->Prop}(h:(Ik st (m.bind (Bd c st))).all Q):(m.bind (Bd c st)).all Q:=by
 unfold Ik at h
 split at h
 ·rename_i r hr
  rw[cond_eq_ite] at h
  split at h
  ·rename_i hb
   refine M.VM (Xf (VN hb) (ND hb)) fun r' h'=>?_
   have:=AV.beq_eq h'.1
   have e:r'=(r.1,st):=by rw[this,← h'.2]
   rw[e]; exact h
  ·exact h.elim
 ·exact h.elim
 mutual
theorem RN:∀{v:AV} {rv:Value},Ad J ν v rv->v.plain=true->Ad I μ v rv
 |_,_,.bool b,_=>.bool b
 |_,_,.int k n,_=>.int k n
 |_,_,.str l,_=>.str l
 |_,_,.agg cs rvs h h1,hp=>.agg cs rvs (MQ h (by simpa [AV.plain] using hp)) h1
 |_,_,.tuple cs rvs h,hp=>.tuple cs rvs (MQ h (by simpa [AV.plain] using hp))
theorem MQ:∀{l:List AV} {rl:List Value},Ah J ν l rl->AV.Pt l=true->Ah I μ l rl
 |_,_,.nil,_=>.nil
 |_,_,.cons v rv l rl h t,hp=>by
  simp only[AV.Pt,Bool.and_eq_true] at hp
  exact .cons v rv l rl (RN h hp.1) (MQ t hp.2)
end
theorem ag (hS:Sound G):∀n,Ig P G.GT (AR G.E n):=by
 intro n
 induction n with
 |zero=>intro f args st Q h; exact h.elim
 |succ n ih=>
  intro f args st Q h base w0 I μ w rargs H hlo hG ha
  unfold AR at h
  split at h
  ·rename_i g hg
   split at h
   ·rename_i v hv
    obtain⟨h1,h2⟩:=hS.QN f g hg args v st hv base w0 I μ w rargs hG H ha
    refine⟨h1,Calls.mono h2 fun e w' hr=>?_⟩
    obtain⟨rv,K,e1,e2,e3,e4⟩:=hr
    exact⟨rv,v,st,K,μ,e1,h,e3,e2,e4,fun _ _ h=>h,fun _ _ _=>rfl,Nat.le_refl _,rfl,fun _ _ _ _=>rfl⟩
   ·exact h.elim
  ·split at h
   ·exact h.elim
   ·rename_i fn hfn
    have hF:=hS.code f fn hfn
    split at h
    ·exact Li hS ih hF h H hlo hG ha
    ·rw[M.all_bind] at h
     obtain⟨h1,h2⟩:=Li hS ih hF h H hlo hG ha
     refine⟨h1,Calls.mono h2 fun e w' hr=>?_⟩
     obtain⟨rv,v,st',J,ν,e1,e2,e3,e4,e5⟩:=hr
     unfold GG at e2
     split at e2
     ·rename_i v' hv'
      rw[cond_eq_ite] at e2
      split at e2
      ·rename_i hh
       obtain⟨K,k1,k2,k3⟩:=gI e3 e4 hv' hh (by rw[e5.lo]; exact hlo)
       refine⟨rv,v',_,K,MH ν st.c,e1,e2,k1,k2,Cz.le_trans e5.JM k3,fun p pl hp=>?_,fun p hp _=>?_,Nat.le_refl _,e5.lo,fun p hp hs hn=>?_⟩
       ·have hpc:p<st.c:=by
         rcases Nat.lt_or_ge p st.c with h|h
         ·exact h
         ·rw[H.Ur p h] at hp; cases hp
        simp only[MH,hpc,if_true]
        exact e5.le p pl hp
       ·simp only[MH,hp,if_true]
        exact e5.same p hp (fun h=>h)
       ·show AA (Gg st.c st'.h) p=_
        rw[Hr hp]
        exact e5.kept p hp (fun h=>h) hn
      ·exact e2.elim
     ·exact e2.elim
    ·rw[M.all_bind] at h
     have H':Ar w.heap.size ⟨w,I⟩ I μ { st with lo:=st.c } w:=
      ⟨Below.refl _ _,Nat.le_refl _,H.JM,H.Da,H.Ur,H.obj,fun o x pl h1 h2 h3=>absurd (H.BQ o x h1) (by simp only at h3; omega),H.sep,H.Ll,H.HV,H.BQ,fun r _=>⟨fun _=>rfl,rfl⟩⟩
     obtain⟨h1,h2⟩:=Li hS ih hF h H' (Nat.le_refl _) hG ha
     refine⟨h1,Calls.mono h2 fun e w' hr=>?_⟩
     obtain⟨rv,v,st',J,ν,e1,e2,e3,e4,e5⟩:=hr
     unfold Bd at e2
     split at e2
     ·rename_i v' hv'
      obtain⟨K,k1,k2,k3⟩:=SG H e3 e5.JM e4 hv' (fun o pl ho hp=>by rw[← e5.same o ho (fun h=>h)]; exact hp) (by rw[e5.lo]; exact Nat.le_refl _)
      exact⟨rv,v',st,K,μ,e1,e2,k1,k2,k3,fun _ _ h=>h,fun _ _ _=>rfl,Nat.le_refl _,rfl,fun _ _ _ _=>rfl⟩
     ·exact e2.elim
    ·have h:=Qp h
     rw[M.all_bind] at h
     have H':Ar w.heap.size ⟨w,I⟩ I μ { st with lo:=st.c } w:=
      ⟨Below.refl _ _,Nat.le_refl _,H.JM,H.Da,H.Ur,H.obj,fun o x pl h1 h2 h3=>absurd (H.BQ o x h1) (by simp only at h3; omega),H.sep,H.Ll,H.HV,H.BQ,fun r _=>⟨fun _=>rfl,rfl⟩⟩
     obtain⟨h1,h2⟩:=Li hS ih hF h H' (Nat.le_refl _) hG ha
     refine⟨h1,Calls.mono h2 fun e w' hr=>?_⟩
     obtain⟨rv,v,st',J,ν,e1,e2,e3,e4,e5⟩:=hr
     unfold Bd at e2
     split at e2
     ·rename_i v' hv'
      obtain⟨K,k1,k2,k3⟩:=SG H e3 e5.JM e4 hv' (fun o pl ho hp=>by rw[← e5.same o ho (fun h=>h)]; exact hp) (by rw[e5.lo]; exact Nat.le_refl _)
      exact⟨rv,v',st,K,μ,e1,e2,k1,k2,k3,fun _ _ h=>h,fun _ _ _=>rfl,Nat.le_refl _,rfl,fun _ _ _ _=>rfl⟩
     ·exact e2.elim
    ·rw[cond_eq_ite] at h
     split at h
     ·rename_i hold
      rw[M.all_bind] at h
      have H':Ar w.heap.size ⟨w,I⟩ I (fun _=>none) ⟨[],0,0⟩ w:=
       ⟨Below.refl _ _,Nat.le_refl _,H.JM,H.Da,fun _ _=>rfl,fun o x pl h1=>(by cases h1),fun o x pl h1=>(by cases h1),fun o p x y pl pm h1=>(by cases h1),fun o x pl i h1=>(by cases h1),fun o x pl h1=>(by cases h1),fun o x h1=>(by cases h1),fun r _=>⟨fun _=>rfl,rfl⟩⟩
      obtain⟨h1,h2⟩:=Li hS ih hF h H' (Nat.le_refl _) hG (Dh (c:=0) (fun o pl ho _=>absurd ho (Nat.not_lt_zero _)) (Cz.le_refl I) ha hold)
      refine⟨h1,Calls.mono h2 fun e w' hr=>?_⟩
      obtain⟨rv,v,st',J,ν,e1,e2,e3,e4,e5⟩:=hr
      unfold Bd at e2
      split at e2
      ·rename_i v' hv'
       obtain⟨K,k1,k2,k3⟩:=SG (μ:=μ) H e3 e5.JM e4 hv' (fun o pl ho _=>absurd ho (Nat.not_lt_zero _)) (by rw[e5.lo]; exact Nat.le_refl _)
       exact⟨rv,v',st,K,μ,e1,e2,k1,k2,k3,fun _ _ h=>h,fun _ _ _=>rfl,Nat.le_refl _,rfl,fun _ _ _ _=>rfl⟩
      ·exact e2.elim
     ·exact h.elim
    ·split at h
     ·rename_i args' ht
      rw[M.all_bind] at h
      have hle:=Sc (c:=0) H
      have ha':Ah (Ml I μ 0 st.h w) (fun _=>none) args' rargs:=De (fun v v' rv h1 h2=>Rv H (fun o pl ho _=>absurd ho (Nat.not_lt_zero _)) _ v v' rv h1 h2) ht ha
      have H':Ar w.heap.size ⟨w,Ml I μ 0 st.h w⟩ (Ml I μ 0 st.h w) (fun _=>none) ⟨[],0,0⟩ w:=
       ⟨Below.refl _ _,Nat.le_refl _,fun r off u h=>(by
        simp only[Ml] at h
        split at h
        ·exact h
        ·exact H.JM r off u h),fun r es h=>(by
        simp only[Ml] at h
        split at h
        ·exact h
        ·exact H.Da r es h),fun _ _=>rfl,fun o x pl h1=>(by cases h1),fun o x pl h1=>(by cases h1),fun o p x y pl pm h1=>(by cases h1),fun o x pl i h1=>(by cases h1),fun o x pl h1=>(by cases h1),fun o x h1=>(by cases h1),fun r _=>⟨fun _=>rfl,rfl⟩⟩
      obtain⟨h1,h2⟩:=Li hS ih hF h H' (Nat.le_refl _) (hG.mono hle) ha'
      refine⟨h1,Calls.mono h2 fun e w' hr=>?_⟩
      obtain⟨rv,v,st',J,ν,e1,e2,e3,e4,e5⟩:=hr
      unfold DZ at e2
      rw[cond_eq_ite] at e2
      split at e2
      ·rename_i hp
       exact⟨rv,v,st,I,μ,e1,e2,H.grown e3.below,RN e4 hp,Nx.refl _ _ _ _⟩
      ·exact e2.elim
     ·exact h.elim
end
end Go.Am
end
