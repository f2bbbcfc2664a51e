/- A part of the proof of grammarsComeBack (merged by a program). -/
import Derived.Test.YtmnlpahaihiegaaGreatDoorP1
import Derived.Test.YtmnlpahaihiegaaGreatDoorP2
import Derived.Test.YtmnlpahaihiegaaGreatDoorP3
import Derived.Test.YtmnlpahaihiegaaGreatDoorP4
import Derived.Test.YtmnlpahaihiegaaGreatDoorP5A
import Derived.Test.YtmnlpahaihiegaaGreatDoorP5B
import Derived.Test.YtmnlpahaihiegaaGreatDoorP5C
import Derived.Test.YtmnlpahaihiegaaGreatDoorP5D
import Derived.Shelf.Vars
namespace Go.Am
open Go Go.Proofs Go.RowKit Go.ChangeShapes Go.WideShapes Go.ChangeAt
open Go.Proofs.YtmnlpahaihiegaaGreatDoor
def G:PQ Tryz.prog:=⟨E,X,GT,mq,jM⟩
section
variable {H:Type}{enc:TypeId × Value->H}{P:Program}
theorem RQ {f:Func}{s:ChangeSpec}{apart fresh handsOn again:Bool}{W W':World}{args:Array Value}{v:Value}{ds gs:List (DataW H)}{before pa pv:List MemPlace}(hW:DataW.Whole enc P f.params.toList s.vars apart W args.toList ds gs before)(hres:∀(b:Nat) (sp:Nat->Bool) (hd:Bool),DataW.TrodAll enc P W' b sp hd f.resultTypes.toList (v.resultList f.resultTypes.size) (s.fn H (ds++gs)).results [])(hargs:∀sp:Nat->Bool,(∀p∈before,sp p.block=true)->DataW.TrodAll enc P W' 0 sp true f.params.toList args.toList (s.fn H (ds++gs)).args pa)(hvars:∀sp:Nat->Bool,(∀p∈before,sp p.block=true)->DataW.TrodVars enc P W' sp s.vars (s.fn H (ds++gs)).vars pv)(hps:before=pa++pv)(hb:Below W.heap.size W W')(hok:∀(j:Nat) (t:TypeId) (r:Value),f.resultTypes[j]? =some t->(v.resultList f.resultTypes.size)[j]? =some r->Value.okWide P W' .any 0 t r) :
 s.post enc P f apart fresh handsOn again W args v W':=by
 have Bc:∀p∈before,p.block<W.heap.size:=fun p hp=>hW.lt p hp
 have hold:∀p∈before,(fun b=>decide (b<W.heap.size)) p.block=true:=fun p hp=>by simpa using Bc p hp
 refine⟨ds,gs,before,[],pa,pv,hW,hres _ _ _,hargs _ hold,hvars _ hold,World.keptBut_mono (fun p hp=>⟨hp,?_⟩) (hb.frame (·∈before)),fun _=>?_⟩
 ·rw[hps,List.mem_append] at hp
  exact Or.inr hp
 ·obtain⟨_,_,_,_,_,hz,hn⟩:=hW
  refine⟨hok,_,_,([]++pa)++pv,⟨[]++pa,pv,trodAll_append (hargs _ (fun _ _=>rfl)) (hres _ _ _),hvars _ (fun _ _=>rfl),rfl,?_,?_⟩,?_⟩
  ·intro b off hp
   have hin:MemPlace.cell b off∈before:=by rw[hps]; simpa using hp
   rw[hb.frozen (Bc _ hin)]
   exact hz b off hin
  ·intro ha
   have:=hn ha
   rw[hps] at this
   simpa using this
  ·intro p hp _
   rw[hps]
   simpa using hp
end
def dL (v:AV)(zs:List Int):Prop:=(v=.AB/\zs=[])∨∃t,v=.list t 1 (zs.map (AV.int .i64))
theorem laidOut:laidOutB Tryz.prog=true:=by kernel_rfl
theorem own:ownKnob Tryz.prog.godebug=none:=by kernel_rfl
theorem bO {W:World}{zs:List Int}{a:Addr}{len cap:Nat}(ha:a.spot=none)(hl:len<=cap)(hz:zs.length=cap)(hc:∀i,i<zs.length->W.cell? (a.add i)=some (.int .i64 (zs.getD i 0))) :
 Ae (Nc W) (fun _=>none) (.list false 1 ((zs.take len).map (AV.int .i64))) (.slice (some a) len cap):=by
 obtain⟨b,o,s⟩:=a
 simp only at ha; subst ha
 have hlen:((zs.take len).map (AV.int .i64)).length=len:=by simp; omega
 have key:Ae (Nc W) (fun _=>none) (.list false 1 ((zs.take len).map (AV.int .i64))) (.slice (some ⟨b,o,none⟩) ((zs.take len).map (AV.int .i64)).length cap):=by
  refine .list false 1 _ b o cap ((zs.take len).map (Value.int .i64)) (fun i hi=>?_) (QO _ _) (fun x hx=>?_) ?_ (by omega) (by simp)
  ·have hi':i<zs.length:=by simp at hi; omega
   have:=hc i hi'
   show W.cell? ⟨b,o+i,none⟩=_
   have e:(⟨b,o,none⟩:Addr).add i=⟨b,o+i,none⟩:=by
    unfold Addr.add; split
    ·subst_vars; rfl
    ·rfl
   rw[e] at this
   rw[this]
   simp[List.getD,hi']
  ·obtain⟨z,_,rfl⟩:=List.mem_map.1 hx; rfl
  ·have:((zs.take len).map (AV.int .i64)).flatMap AV.cells=(zs.take len).map (AV.int .i64):=by
    induction zs.take len with
    |nil=>rfl
    |cons z l ih=>simp[AV.cells] at ih ⊢; exact ih
   rw[this]
   exact Ki _ _ _ _
 rw[hlen] at key
 exact key
def YT (f:Nat):Prop:=∀(v:AV) (zs:List Int),dL v zs->∃n,(AX E n f [v] ⟨[],0,0⟩).all fun r=>r.1=.bool true
set_option maxRecDepth 100000
theorem Um {H:Type}{enc:TypeId × Value->H}{C:Checked}{os:Os}{f:FuncId}{fn:Func}{s:ChangeSpec}{X:World->Array Value->Prop}(hX:∀(w w':World) (args:Array Value),w.heap=w'.heap->X w args->X w' args)(own:ownKnob C.prog.godebug=none)(started:os.Started)(noInit:C.prog.inits.idxOf? f=none)(hfn:C.prog.funcs[f]? =some fn)(witness:∃(w:World) (tape:Tape) (i:Input),w.os=os/\(w.forCall tape i).Shaped C.prog/\i.vars=[]/\Input.okWide C.prog (w.forCall tape i) .any w.heap.size f i /\
 ((s.pre enc C.prog fn [] false (w.forCall tape i).memory i.args/\X (w.forCall tape i).memory i.args)/\sizedMet enc C.prog fn (OpenSpec.ofChange s) false (w.forCall tape i).memory i.args)/\({}:Assume).holds C.prog (lone (Frame.enter C.prog f i.args .normal) [] (w.forCall tape i)))(contract:∀(W:World) (base:Nat) (args:Array Value) (ds gs:List (DataW H)) (before:List MemPlace),
 (∀(j:Nat) t v,fn.params[j]? =some t->args[j]? =some v->Value.okWide C.prog W .any base t v) ->
 DataW.Whole enc C.prog fn.params.toList s.vars false W args.toList ds gs before->X W args->W.ShapedOpen C.prog ->
 Calls C.prog f args W fun e W'=>∃v,e=.returned v/\s.post enc C.prog fn false true false false W args v W') :
 ReturnsInHanded {} C os f .any (fun w args=>(s.pre enc C.prog fn [] false w args/\X w args)/\sizedMet enc C.prog fn (OpenSpec.ofChange s) false w args) (s.post enc C.prog fn false true false false):=by
 refine returnsInHanded_of_calls own started noInit witness fun w tape i _ hsh _ hok hpre _=>?_
 obtain⟨_,_,_,fn',hfn',_,_,_,_,hval⟩:=hok
 cases Option.some.inj (hfn'.symm.trans hfn)
 obtain⟨⟨⟨ds,gs,before,hw,_⟩,hx⟩,_⟩:=hpre
 have hw':=DataW.Whole.of_heap (w':=w.forCall tape i) (by rfl) hw
 have hx':=hX _ (w.forCall tape i) _ (by rfl) hx
 refine Calls.mono (contract (w.forCall tape i) w.heap.size i.args ds gs before hval hw' hx' hsh) fun e W' h=>?_
 obtain⟨v,rfl,hp⟩:=h
 exact ChangeSpec.post_blind hp
theorem dm {W:World}(h:W.ShapedOpen Tryz.prog):∃m,W.cell? ⟨2,0,none⟩=some (.int .i64 m):=by
 exact cell_of_shapedOpen_int (zero:=#[.int .i64 0]) (t:=3) h (of_decide_eq_true (by kernel_rfl)) (by kernel_rfl) rfl (by kernel_rfl) (by kernel_rfl) Tryz.underlying3
theorem KR (hS:Sound G)(hG:YT 3)(os:Os)(started:os.Started)(H:Type)(enc:TypeId × Value->H) :
 ReturnsInHanded {} Tryz.checked os 3 .any (fun w args=>(Rows.grammarsComeBackSpec.pre enc Tryz.prog Tryz.f3 [] false w args/\laidMetH Tryz.prog laidAll w)/\sizedMet enc Tryz.prog Tryz.f3 (OpenSpec.ofChange Rows.grammarsComeBackSpec) false w args)
  (Rows.grammarsComeBackSpec.post enc Tryz.prog Tryz.f3 false true false false):=by
 refine Um (C:=Tryz.checked) (X:=fun w _=>laidMetH Tryz.prog laidAll w) (fun _ _ _ hh h=>h.of_heap hh) own started lQ Tryz.func3
  (ChangeSpec.witness_shaped (enc:=enc) (C:=Tryz.checked) (os:=os) (X:=fun w _=>laidMetH Tryz.prog laidAll w) false (World.laidAll Tryz.prog os laidAll) #[.slice none 0 0] 8 (World.laidAll_os _ _ _) (World.shaped_of_ZipB (iV os) (iW os)) (lN os) (iX os H enc) (lM os H enc)
   (by rw[MakeChecks.laidMetH_plain _ _ _ (by kernel_rfl)]; exact laidMet_laidAll _ (lT os) (lS os))) ?_
 intro W base args ds gs before hval0 hW hL hsh
 have hval:∀(j:Nat) t v,Tryz.f3.params[j]? =some t->args[j]? =some v->Value.okWide Tryz.prog W .any base t v:=hval0
 rw[MakeChecks.laidMetH_plain _ _ _ (by kernel_rfl)] at hL
 have hglob:=fP hL (dm hsh)
 have hW':=hW
 obtain⟨p,q,hA0,hV,rfl,hfz,hnd⟩:=hW
 have hA:DataW.TrodAll enc Tryz.prog W 0 (fun _=>true) true Tryz.f3.params.toList args.toList ds p:=hA0
 rw[Tryz.params3] at hA hval
 obtain⟨v0,d0,rfl,rfl,h0⟩:=trodAll_one hA
 obtain⟨rfl,rfl⟩:=trodVars_none hV
 have hv0:=hval 0 22 v0 rfl rfl
 have hrel:∃v zs,dL v zs/\Ae (Nc W) (fun _=>none) v v0:=by
  obtain⟨n,h0'⟩:=h0
  have hcells:∃c,v0.cells.toList=[c]:=by
   rcases open_ints Tryz.underlying22 Tryz.underlying3 c3 h0' with⟨hc,_⟩|⟨_,_,_,_,hc,_⟩
   ·exact⟨_,hc⟩
   ·exact⟨_,hc⟩
  have hv0':v0.cells.toList=[v0]:=by
   unfold Value.okWide at hv0
   simp only[Tryz.underlying22] at hv0
   unfold Cell.okWide at hv0
   cases v0 <;> simp[Value.cells,Cell.ok,Tryz.underlying22] at hv0 ⊢
  rcases open_ints Tryz.underlying22 Tryz.underlying3 c3 h0' with⟨hc,_⟩|⟨a,len,cap,zs,hc,_,hl,_,hz,_,hcell,_⟩
  ·rw[hv0'] at hc
   have:v0=.slice none 0 0:=by simpa using hc
   subst this
   exact⟨.AB,[],.inl ⟨rfl,rfl⟩,.AB⟩
  ·rw[hv0'] at hc
   have:v0=.slice (some a) len cap:=by simpa using hc
   subst this
   have hs:a.spot=none:=by
    unfold Value.okWide at hv0
    simp only[Tryz.underlying22] at hv0
    unfold Cell.okWide Cell.ok at hv0
    simp only[Tryz.underlying22] at hv0
    exact hv0.2.2.2.1
   exact⟨_,zs.take len,.inr ⟨false,rfl⟩,bO hs hl (by simpa using hz) hcell⟩
 obtain⟨v,zs,hv,hr⟩:=hrel
 obtain⟨n,hrun⟩:=hG v zs hv
 obtain⟨_,hcalls⟩:=dF hS n 3 [v] ⟨[],0,0⟩ _ hrun W.heap.size ⟨W,Nc W⟩ (Nc W) (fun _=>none) W [v0] (Yf W) (Nat.le_refl _) hglob (.cons _ _ _ _ hr .nil)
 refine Calls.mono hcalls fun e W2 h2=>?_
 obtain⟨rv,u,st',J,ν,rfl,hu,hrel2,hvr,_⟩:=h2
 simp only at hu
 subst hu
 cases hvr
 refine⟨_,rfl,?_⟩
 have hb:Below W.heap.size W W2:=hrel2.below
 refine RQ (pa:=p) (pv:=[]) hW' (fun _ _ _=>trodAll_mk1 (shut_bool Tryz.underlying4 _)) (fun sp hsp=>trodAll_mk1 ?_) (fun _ _=>rfl) rfl hb (ok_one (by kernel_rfl) rfl (okWide_bool_mk Tryz.underlying4 _))
 exact WideElems.Trod_stays laidOut (by kernel_rfl) (of_decide_eq_true (by kernel_rfl)) h0 (fun x hx=>hb.same (hW'.lt x (by simpa using hx))) (fun x hx=>hsp x (by simpa using hx))
theorem gF:joinedFacts Tryz.prog 3 Tryz.f3 Rows.grammarsComeBackSpec Rows.grammarsComeBackRow=true:=by
 unfold joinedFacts
 simp only[Bool.and_eq_true]
 exact⟨⟨⟨⟨⟨⟨⟨⟨⟨⟨⟨⟨⟨⟨⟨⟨⟨⟨⟨⟨⟨⟨⟨⟨⟨⟨⟨⟨⟨⟨⟨mZ,mY⟩,mX⟩,mW⟩,mV⟩,mU⟩,mR⟩,mQ⟩,mP⟩,mO⟩,jo⟩,jm⟩,jl⟩,jk⟩,ji⟩,jh⟩,jg⟩,jf⟩,je⟩,jd⟩,jc⟩,jb⟩,ja⟩,jZ⟩,jY⟩,jX⟩,jW⟩,jV⟩,jU⟩,jT⟩,jS⟩,jR⟩
theorem La (hS:Sound G)(hG:YT 3):Rows.GrammarsComeBackSaid:=
 OpenClaim.holds_of_wide 3 Tryz.f3 rfl rfl rfl rfl rfl rfl rfl ⟨rfl,rfl,rfl,rfl,rfl⟩ rfl rfl rfl rfl rfl ax Tryz.func3 gF ma lL
  (fun os started H enc _=>KR hS hG os started H enc)
end Go.Am
