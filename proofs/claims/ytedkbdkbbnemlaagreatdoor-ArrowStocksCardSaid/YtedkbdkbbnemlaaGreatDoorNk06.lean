import Derived.Test.YtedkbdkbbnemlaaGreatDoorNk05
import Derived.Calls
import Derived.Conc.Fork
set_option linter.all false
namespace Go.Nk
open Go Go.Conc
open Go.ConcN (sumTo)
variable [Ban]
def Z82(P:Program)(f:FuncId)(t:Tmp)(R:Value->World->Prop)(fr:Frame)(cs:List Frame)(V:World):Prop:=
 cs=[trap]/\fr.fn=f/\fr.mode= .returning/\fr.defers=[]/\R (fr.tmps.getD t undef) V
section
variable {P:Program} {fs:Array Func} {Gs:Nat->Bool} {w0:World} {f:FuncId} {tr:Tmp} {R:Value->World->Prop}
theorem Z2a(hR:∀t v V,R v V->R v (retape t V)):IsEnd (Z82 P f tr R):=
 ⟨fun _ _ _ h=>⟨h.1,h.2.2.1⟩,fun _ _ _ h=>h.2.2.2.1,fun _ _ _ _ h=>⟨h.1,h.2.1,h.2.2.1,h.2.2.2.1,hR _ _ _ h.2.2.2.2⟩⟩
theorem Z2p{args:Array Value}{V:World}{fn:Func}(hf:P.funcs[f]? =some fn)(hr:fn.results= #[.tmp tr])
 (h:∀t,Calls P f args (retape t V) fun e V'=>∃v,e= .returned v/\R v V'):ZdQ P (Z82 P f tr R) (Frame.enter P f args .normal) [trap] V:=by
 intro t;obtain⟨e,V',fr,⟨v,rfl,hv⟩,⟨n,hn⟩,hfn,hm,hd,hk,fn',hf',Af⟩:=h t [trap];rw[hfn,hf] at hf';cases hf';rw[results_tmp hr] at Af;cases Af;exact⟨n,fr,[trap],V',hn,rfl,hfn,hm,hd,hv⟩
theorem Z9p(hi:P.inits.idxOf? f=none){fn:Func}(hf:P.funcs[f]? =some fn)(hr:fn.results= #[.tmp tr]){E:Frame->List Frame->World->Prop}(hEE:∀fr cs V,E fr cs V->Z82 (Z6 P fs) f tr R fr cs V){m:Machine}{t:Trace}(h:Zcl P fs Gs E [] w0 m t):
 ∃N last o w' t',runNT P (N+1) m t=(.ended o w',t')/\runN P N m= .next last/\step P last= .ended o w'/\
  Go.Conc.Good P (fun v w'=>∃v0 V t ρ,R v0 (retape t V)/\VRel ρ (Live V) v0 v/\Emb ρ P.globals.size (fun b=>Gs b=true) V w'/\(∀b,b<w0.heap.size->w'.heap[b]? =w0.heap[b]?)/\w0.heap.size<=w'.heap.size/\w'.tape=w0.tape/\w'.os=w0.os/\w'.output=w0.output) last o w' t':=by
 obtain⟨ρ,Sb,fr,V,fr',gs,w,sl,q,rfl,hR,hf',hM,⟨t0,he⟩,hm,hd⟩:=h;obtain⟨_,hfn,_,_,hv⟩:=hEE _ _ _ he;refine beside_ends (Shun:=Zu Sb) (B:=w.heap.size) (D:=fun _ _ _=>False) (n:=0) (fun _ _ _ h=>h.elim) hM.main hM.leave hM.past ?_;intro w₁ hw;obtain⟨d,rfl⟩:=hw;have hm':fr'.mode= .returning:=hf'.mode.1.trans hm;have hd':fr'.defers=[]:=by
  have:=hf'.defers;rw[hd] at this;generalize fr'.defers=x at this;cases this;rfl
 have Nj:fr'.fn=f:=hf'.fn.trans hfn;refine⟨rfl,fr'.tmps.getD tr undef,#[],?_,fun e he=>by simp at he,fr.tmps.getD tr undef,V,t0,ρ,hv,?_,⟨hR.emb.obj,hR.emb.inj,hR.emb.fz,hR.emb.low,hR.emb.gV,hR.emb.gw⟩,hR.old,hR.grown,hR.tape,hR.os,hR.output⟩
 ·have Af:(results fn fr'.tmps).runT P (w.at d) #[]=(.ok (fr'.tmps.getD tr undef) (w.at d),#[]):=by
   simp[results,hr]
  have e1:stepG P true (G fr' []) (w.at d)=unwind P true fr' [] none (w.at d):=by simp only[G,stepG,hm']
  rw[e1];simp only[unwind,hd',hm',Nj,hf,Af,doReturn,hf'.kind.2,hi];simp[GStep.after,seen,Bool.not_true]
 ·exact hf'.tmps.at tr
end
theorem Z9q{P:Program}{m':Machine}{t':Trace}:∀{N N':Nat}{m:Machine}{t:Trace}{r:Stepped×Trace},runNT P N m t=(.next m',t')->runNT P N' m' t'=r->runNT P (N+N') m t=r:=by
 intro N
 induction N with
 |zero=>
  intro N' m t r h hr;simp only[runNT,Prod.mk.injEq,Stepped.next.injEq] at h;obtain⟨rfl,rfl⟩:=h;rw[Nat.zero_add];exact hr
 |succ N ih=>
  intro N' m t r h hr;cases e:stepT P m with
  |mk s ops=>
   cases s with
   |next m₁=>
    rw[Z0F e rfl] at h;rw[Nat.succ_add];exact Z0F e (ih h hr)
   |ended o w1=>simp only[runNT,e,Prod.mk.injEq,reduceCtorEq,false_and] at h
structure Start[Ban](Gs:Nat->Bool)(G:Nat)(V w:World):Prop where
 emb:Emb id G (fun b=>Gs b=true) V w
 self:Sim id G (fun _=>False) V V
 loops:∀(b:Nat)(l:Loop),V.heap[b]? ≠some (Obj.loop l)
 live:∀g,Gs g=true↔Live V g
section
variable {w:World}
variable {P:Program} {fs:Array Func} {Gs:Nat->Bool} {f:FuncId} {tr:Tmp} {R:Value->World->Prop}
theorem Zbf(hs:Solo P fs Gs)(Fy:Z3T P fs)(hR:∀t v V,R v V->R v (retape t V)){fn:Func}(hf:P.funcs[f]? =some fn)(hf':fs[f]? =some fn)(hr:fn.results= #[.tmp tr])(hi:P.inits.idxOf? f=none)(Db:Ent (Z6 P fs) fs f)(htm:Tm P fs Gs f)
 {args:Array Value}(hP:Zbd P fs Gs (Z82 (Z6 P fs) f tr R) [] w){V0:World}(hk:Start Gs P.globals.size V0 w)
 (Ih:AR id (Live V0) args args)
 (h:∀t,Calls (Z6 P fs) f args (retape t V0) fun e V'=>∃v,e= .returned v/\R v V'):
 ∃N last o w' t',runNT P (N+1) (solo (G (Frame.enter P f args .normal) []) w) #[]=(.ended o w',t')/\runN P N (solo (G (Frame.enter P f args .normal) []) w)= .next last/\step P last= .ended o w'/\
  Go.Conc.Good P (fun v w'=>∃v0 V t ρ,R v0 (retape t V)/\VRel ρ (Live V) v0 v/\Emb ρ P.globals.size (fun b=>Gs b=true) V w'/\(∀b,b<w.heap.size->w'.heap[b]? =w.heap[b]?)/\w.heap.size<=w'.heap.size/\w'.tape=w.tape/\w'.os=w.os/\w'.output=w.output) last o w' t':=by
 have Id:(Z6 P fs).funcs[f]? =some fn:=hf';have hE:IsEnd (Z82 (Z6 P fs) f tr R):=Z2a hR;have Qy:∀g,Gs g=true->Live V0 g:=fun g hg=>(hk.live g).1 hg
 have Fw:LoopsOk (ZE P fs Gs) V0:=fun b l hb=>absurd hb (hk.loops b l)
 have Ay:Self P fs Gs (Frame.enter (Z6 P fs) f args .normal) [trap] V0:=
  ⟨hk.self,fun b l hb=>absurd hb (hk.loops b l),FrR.enter (P:=Z6 P fs) (hs.all f Db) Ih,.nil,fun _=>rfl⟩
 have hH:=Z7h hs hE Qy Ay (Z2p Id hr h);have Qz:=FrR.enter (fs:=fs) htm Ih
 have Wm:RelM P fs Gs [] w id (fun b=>b<w.heap.size/\Gs b=false) (Frame.enter (Z6 P fs) f args .normal) [trap] V0 (Frame.enter P f args .normal) [] w:=
  ⟨Ay,.own Qz,.nil,fun _=>Qz,fun _=>rfl,hk.emb,Fw,fun g hg=>⟨Qy g hg,rfl⟩,fun b hb h=>(by have h2:Gs b=false:=h.2;rw[(hk.live b).2 hb] at h2;exact(Bool.noConfusion h2)),fun b h=>h.1,fun _ _=>rfl,fun b hb hg=>(by rw[(hk.live b).2 hb] at hg;exact Bool.noConfusion hg),Nat.le_refl _,rfl,rfl,rfl⟩
 have Wn:MacM P (fun b=>b<w.heap.size/\Gs b=false) (Frame.enter P f args .normal) [] #[G (Frame.enter P f args .normal) []] w #[] (fun _=>0):=
  ⟨rfl,leavers_one P _,⟨fun said=>by rintro⟨i,j,_,⟨a,b,ha,_⟩,_⟩;simp[Trace.act?] at ha,fun i a ha=>by simp[touchAt,Trace.act?] at ha,fun i g hg=>by simp[Trace.g?] at hg,rfl,by simp⟩,by simp⟩
 obtain⟨N,m',t',h1,h2⟩:=Zbe hs Fy hE hP hH .refl (sl:=none) Wm Wn;obtain⟨N',last,o,w',t'',h3,h4,h5,h6⟩:=Z9p hi hf hr (fun _ _ _ h=>h) h2;have h7:runN P N (crowd #[G (Frame.enter P f args .normal) []] w none)= .next m':=by rw[<-runNT_fst P N _ #[],h1]
 refine⟨N+N',last,o,w',t'',?_,?_,h5,h6⟩
 ·rw[solo_eq_crowd,Nat.add_assoc];exact Z9q h1 h3
 ·rw[solo_eq_crowd,runN_add,h7];exact h4
end
end Go.Nk
