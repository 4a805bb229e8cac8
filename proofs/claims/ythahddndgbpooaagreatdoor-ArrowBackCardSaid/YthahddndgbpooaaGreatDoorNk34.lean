import Derived.Test.YthahddndgbpooaaGreatDoorNkA
import Derived.Test.YthahddndgbpooaaGreatDoorNk33
set_option linter.all false
set_option maxRecDepth 100000
set_option maxHeartbeats 4000000
open Go
variable {a:Act}{C T:Array Value}{main:Bool}{c c' x y:Code}{fn:Func}{f:FuncId}{l:List Int}{B b i:Nat}{Sb:Nat->Prop}{o:Operand}{P:Program}{r tr:Tmp}{t:Trace}{p q:Value}{R:Value->World->Prop}{w w':World}
namespace Go.Nk
open Go Go.Conc
open Go.ConcN (sumTo)
variable [Ban]
theorem Zqq(h:Past (λ_=>False) B t):Past (Zu Sb) B t:=⟨h.clean,λi a h1 h2=> .inl ((h.known i a h1 h2).resolve_right λx=>x.1),h.over,h.hears,h.seen⟩
theorem Zp9(h:∀op∈t,op.g=0)(j:Nat)(hj:1<=j):Deaf t j=0:=Go.ConcN.Deaf_absent (λi op A2=>by rw[h op (Array.mem_of_getElem? A2)];omega)
theorem ZqQ{Rel:World->World->Prop}{D:World->World->Array Event->Prop}{Stop Stop':Goroutine->World->Prop}(h:∀g w,Stop g w->Stop' g w):∀(n:Nat)(g:Goroutine)(w:World),Goes P main Rel D Stop n g w->Goes P main Rel D Stop' n g w:=by
 intro n
 induction n with
 |zero=>exact λg w hg w1 hw=>h _ _ (hg w1 hw)
 |succ n ih=>
  intro g w hg;rcases hg with hg|⟨h1,h2⟩
  ·exact .inl λw1 hw=>h _ _ (hg w1 hw)
  ·refine .inr ⟨h1,λw1 hw=> ?_⟩;have:=h2 w1 hw;generalize stepG P main g w1=s at this;cases s<;>first|exact⟨this.1,ih _ _ this.2⟩|exact this
section
variable {fs:Array Func}{Gs:Nat->Bool}
theorem Zbx(hs:Solo P fs Gs)(Gl:Z3T P fs)(hR:∀t v V,R v V->R v (retape t V)){fn:Func}(hf:P.funcs[f]? =some fn)(hf':fs[f]? =some fn)(hr:fn.results= #[.tmp tr])(G2:Ent (Z6 P fs) fs f)(W7:Tm P fs Gs f)
 {args:Array Value}{lf:Frame}(hP:Zbd P fs Gs (Z82 (Z6 P fs) f tr R) [lf] w){V0:World}(hk:Start Gs P.globals.size V0 w)
 (Nd:AR id (Live V0) args args)
 (h:∀t,Calls (Z6 P fs) f args (retape t V0) λe V'=>∃v,e= .returned v/\R v V')
 {t:Trace}(hp:Past (λ_=>False) w.heap.size t)(Cl:∀op∈t,op.g=0){Post:Value->World->Prop}{k:Nat}
 (Ce:∀v0 v V ρ t0 w',R v0 (retape t0 V)->VRel ρ (Live V) v0 v->(∀b,b<w.heap.size->w'.heap[b]? =w.heap[b]?)->w.heap.size<=w'.heap.size->w'.tape=w.tape->w'.os=w.os->w'.output=w.output->
   Goes P true AtRel (λ_ _ es=>es= #[]) (λg w1=>g.status= .running/\∃x,stepG P true g w1= .ended (.done x) w1 #[]/\Post x w1) k (G (lf.finish v) []) w'):
 ∃N last o w' t',runNT P (N+1) (crowd #[G (Frame.enter P f args .normal) [lf]] w none) t=(.ended o w',t')/\runN P N (crowd #[G (Frame.enter P f args .normal) [lf]] w none)= .next last/\step P last= .ended o w'/\
  Go.Conc.Good P Post last o w' t':=by
 have Lb:(Z6 P fs).funcs[f]? =some fn:=hf';have hE:IsEnd (Z82 (Z6 P fs) f tr R):=Z2a hR;have Uh:∀g,Gs g=true->Live V0 g:=λg hg=>(hk.live g).1 hg
 have Gj:LoopsOk (ZE P fs Gs) V0:=λb l hb=>absurd hb (hk.loops b l)
 have B0:Self P fs Gs (Frame.enter (Z6 P fs) f args .normal) [trap] V0:=
  ⟨hk.self,λb l hb=>absurd hb (hk.loops b l),FrR.enter (P:=Z6 P fs) (hs.all f G2) Nd,.nil,λ_=>rfl⟩
 have hH:=Z7h hs hE Uh B0 (Z2p Lb hr h);have S7:=FrR.enter (fs:=fs) W7 Nd
 have Yz:RelM P fs Gs [lf] w id (λb=>b<w.heap.size/\Gs b=false) (Frame.enter (Z6 P fs) f args .normal) [trap] V0 (Frame.enter P f args .normal) [lf] w:=
  ⟨B0,.own S7,.nil,λ_=>S7,λ_=>rfl,hk.emb,Gj,λg hg=>⟨Uh g hg,rfl⟩,λb hb h=>(by have h2:Gs b=false:=h.2;rw[(hk.live b).2 hb] at h2;exact(Bool.noConfusion h2)),λb h=>h.1,λ_ _=>rfl,λb hb hg=>(by rw[(hk.live b).2 hb] at hg;exact Bool.noConfusion hg),XB _,rfl,rfl,rfl⟩
 have hMac:MacM P (λb=>b<w.heap.size/\Gs b=false) (Frame.enter P f args .normal) [lf] #[G (Frame.enter P f args .normal) [lf]] w t (λ_=>0):=
  ⟨rfl,⟨λi g hi hg=>by
    have:i<1:=(by simpa using(YF.1 hg).1);omega,λj hj=>Zp9 Cl j (by simpa using hj)⟩,Zqq hp,λop A2=>by rw[Cl op A2];simp⟩
 obtain⟨N,m',t',h1,h2⟩:=Zbe hs Gl hE hP hH .refl (sl:=none) Yz hMac;obtain⟨ρ,Sb,fr,V,fr',gs,w1,sl,q,rfl,Ie,D8,hM,⟨t0,he⟩,hm,hd⟩:=h2;obtain⟨_,hfn,_,_,hv⟩:=he;have hm':fr'.mode= .returning:=D8.mode.1.trans hm;have hd':fr'.defers=[]:=by
  have:=D8.defers;rw[hd] at this;generalize fr'.defers=x at this;cases this;rfl
 have Og:fr'.fn=f:=D8.fn.trans hfn;have hG:Goes P true AtRel (λ_ _ es=>es= #[]) (AtEnd P (Zu Sb) w1.heap.size Post) (k+1) (G fr' [lf]) w1:=by
  refine .step rfl λw2 Cp=> ?_
  have hw2':=Cp;obtain⟨d,rfl⟩:=Cp;have Aj:(results fn fr'.tmps).runT P (w1.at d) #[]=(.ok (fr'.tmps.getD tr undef) (w1.at d),#[]):=by
   simp[results,hr]
  have e1:stepG P true (G fr' [lf]) (w1.at d)= .go (G (lf.finish (fr'.tmps.getD tr undef)) []) (w1.at d) #[]:=by
   have:stepG P true (G fr' [lf]) (w1.at d)=unwind P true fr' [lf] none (w1.at d):=by simp only[G,stepG,hm']
   rw[this];simp only[unwind,hd',hm',Og,hf,Aj,doReturn,D8.kind.2];simp[GStep.after,seen,G]
  rw[e1];refine⟨rfl,?_⟩;have:=Ce _ (fr'.tmps.getD tr undef) V ρ t0 (w1.at d) hv (D8.tmps.at tr) Ie.old Ie.grown Ie.tape Ie.os Ie.output;exact ZqQ (λg x ⟨h1,v,h2,h3⟩=>⟨h1,v,#[],h2,λe he=>by simp at he,h3⟩) _ _ _ this
 obtain⟨N',last,o,w',t'',h3,h4,h5,h6⟩:=beside_ends (Shun:=Zu Sb) (B:=w1.heap.size) (D:=λ_ _ es=>es= #[]) (λ_ _ es h e he=>by rw[h] at he;simp at he) hM.main hM.leave hM.past hG;have h7:runN P N (crowd #[G (Frame.enter P f args .normal) [lf]] w none)= .next (crowd gs w1 sl):=by rw[<-runNT_fst P N _ t,h1]
 refine⟨N+N',last,o,w',t'',?_,?_,h5,h6⟩
 ·rw[TK];exact runNT_cat h1 h3
 ·rw[runN_add,h7];exact h4
end
end Go.Nk
namespace Go.Ns
open Go Go.Conc
open Go.Nk (Ban Z6 trap)
def Y0(P:Program)(c:Code)(G:Code->Act->World->Prop)(a:Act)(w:World):Prop:=
 ∀(b:Frame)(k:List Item)(cs:List Frame),∃x a' k' w',G x a' w'/\Steps P (lone (b.at a (.code c::k)) cs w) (lone (b.at a' (.code x::k')) cs w')
section
variable {G:Code->Act->World->Prop}
theorem Zqr(h:G c a w):Y0 P c G a w:=λb k cs=>⟨c,a,k,w,h,.refl _ _⟩
theorem Zpa(h:Y0 P x G a w):Y0 P (.seq x y) G a w:=λb k cs=>
 let ⟨z,a',k',w',g,s⟩:=h b (.code y::k) cs
 ⟨z,a',k',w',g,.head step_seq s⟩
theorem Znq(h:∀K:Act->World->Prop,(∀a w,Y0 P y G a w->K a w)->x.wp P (Exit.then K (λ_ _ _=>False)) a w):Y0 P (.seq x y) G a w:=by
 intro b k cs;obtain⟨e,a1,w1,hq,harr⟩:=h (λa w=>Y0 P y G a w) (λ_ _ h=>h) b (.code y::k) cs;cases e<;>first|exact hq.elim|skip
 obtain⟨z,a',k',w',g,s⟩:=hq b k cs;exact⟨z,a',k',w',g,.head step_seq (Steps.trans harr s)⟩
theorem Zpb{t:Bool}(hc:a.eval o= .bool t)(h:Y0 P (if t then x else y) G a w):Y0 P (.cond o x y) G a w:=λb k cs=>
 let ⟨z,a',k',w',g,s⟩:=h b k cs
 ⟨z,a',k',w',g,.head (step_cond hc) s⟩
end
def Zpz(g:FuncId)(r:Tmp)(E:World->Prop)(x:Code)(a:Act)(w:World):Prop:=
 ∃id s t1 p1 f1 t2 p2 f2,x= .seq (.region id #[⟨some s,.call {callee:= .value (.func g),args:= #[],argTypes:= #[]},t1,p1,f1,none⟩,⟨some r,.assign (.tmp s),t2,p2,f2,none⟩] false) .ret/\
  s<a.tmps.size/\r<a.tmps.size/\a.defers=[]/\E w
theorem Zrc(w:World)(d e:Nat):(w.at d).at e=w.at e:=rfl
theorem Zqs(hi:P.inits.idxOf? f=none)(hf:P.funcs[f]? =some fn)(Av:fn.results= #[.tmp r]){b:Frame}(hbf:b.fn=f)(Dr:b.kind= .normal){a:Act}{k:List Item}{o1:Oper}{s:Tmp}{t2:TypeId}{p2:String}{f2:Array Edge}
 (Pj:o1.dst=some s)(hs:s<a.tmps.size)(hr:r<a.tmps.size)(hd:a.defers=[]){v:Value}{w:World}{Post:Value->World->Prop}(hp:∀d,Post v (w.at d)):
 Goes P true AtRel (λ_ _ es=>es= #[]) (λg w1=>g.status= .running/\∃x,stepG P true g w1= .ended (.done x) w1 #[]/\Post x w1) 3
  (G ((b.at a (.inRegion #[o1,⟨some r,.assign (.tmp s),t2,p2,f2,none⟩] [0,1]:: .code .ret::k)).finish v) []) w:=by
 rw[Frame.finish_at];have e1:((#[o1,(⟨some r,.assign (.tmp s),t2,p2,f2,none⟩:Oper)])[0]?).bind (·.dst)=some s:=Pj;rw[e1];have hv:(a.put (some s) v).eval (.tmp s)=v:=by simp[Act.put,Act.eval,hs]
 refine .step rfl λw1 Fq=> ?_
 obtain⟨d1,rfl⟩:=Fq;have s1:stepG P true (G (b.at (a.put (some s) v) (.inRegion #[o1,⟨some r,.assign (.tmp s),t2,p2,f2,none⟩] [1]:: .code .ret::k)) []) (w.at d1)= .go (G (b.at ((a.put (some s) v).put (some r) v) (.inRegion #[o1,⟨some r,.assign (.tmp s),t2,p2,f2,none⟩] []:: .code .ret::k)) []) (w.at d1) #[]:=by
  have h1:=stepG_op (P:=P) (b:=b) (a:=a.put (some s) v) (k:= .code .ret::k) (cs:=[]) (w:=w.at d1) (ops:= #[o1,⟨some r,.assign (.tmp s),t2,p2,f2,none⟩]) (i:=1) (rest:=[]) (o:=⟨some r,.assign (.tmp s),t2,p2,f2,none⟩) rfl rfl;have h2:=Frame.finish_at b (a.put (some s) v) #[o1,⟨some r,.assign (.tmp s),t2,p2,f2,none⟩] 1 [] (.code .ret::k) v;unfold G;rw[h1];show stepG.apply P true _ [] none (execOp (a.put (some s) v).eval _) _=_;have h3:execOp (a.put (some s) v).eval ⟨some r,.assign (.tmp s),t2,p2,f2,none⟩=pure (.value v):=by
   show(pure (.value ((a.put (some s) v).eval (.tmp s))):Sem Next)=_;rw[hv]
  rw[h3];have h4:(pure (Next.value v):Sem Next).runT P (w.at d1) #[]=(.ok (.value v) (w.at d1),#[]):=rfl;have hk:((b.at (a.put (some s) v) (.inRegion #[o1,⟨some r,.assign (.tmp s),t2,p2,f2,none⟩] [1]:: .code .ret::k)).kind==CallKind.early)=false:=by show(b.kind==_)=false;rw[Dr];rfl
  simp only[stepG.apply,XQ,h4,hk,YR,XZ,h2];simp[GStep.after,seen,G]
 rw[s1];refine⟨rfl,.step rfl λw1 Fq=> ?_⟩;obtain⟨d2,rfl⟩:=Fq;rw[Zrc];have s2:∀(a:Act)(w:World),stepG P true (G (b.at a (.inRegion #[o1,⟨some r,.assign (.tmp s),t2,p2,f2,none⟩] []:: .code .ret::k)) []) w= .go (G (b.at a (.code .ret::k)) []) w #[]:=λa w=>by simp[G,stepG,stepG.exec,Frame.at]
 rw[s2];refine⟨rfl,.step rfl λw1 Fq=> ?_⟩;obtain⟨d3,rfl⟩:=Fq;rw[Zrc];have s3:∀(a:Act)(w:World),stepG P true (G (b.at a (.code .ret::k)) []) w= .go (G {b.at a (.code .ret::k) with mode:= .returning} []) w #[]:=λa w=>by simp[G,stepG,stepG.exec,Frame.at]
 rw[s3];refine⟨rfl,.stop λw1 Fq=> ?_⟩;obtain⟨d4,rfl⟩:=Fq;rw[Zrc];refine⟨rfl,v,?_,hp d4⟩;have hr':(results fn ((a.put (some s) v).put (some r) v).tmps).runT P (w.at d4) #[]=(.ok v (w.at d4),#[]):=by
  simp[results,Av,Act.put,hr]
 have hd':((a.put (some s) v).put (some r) v).defers=[]:=hd;show unwind P true {b.at ((a.put (some s) v).put (some r) v) (.code .ret::k) with mode:= .returning} [] none (w.at d4)=_;simp only[unwind,Frame.at,hd',hbf,hf,hr',doReturn,Dr];simp[GStep.after,seen,hi]
theorem ZoK(hf:P.funcs[f]? =some fn)(hn:(fn.name== "runtime.NumGoroutine")=false)(hb:fn.body.isNone=false)(args:Array Value)(w:World)(es:Array Event):(callFunc f args).runT P w es=(.ok (.enter f args) w,es):=by
 unfold callFunc;simp only[bind,Sem.bind,program,Sem.runT,hf,hn,hb,YR,XZ];rfl
theorem Zrd[Ban][Pf][FsW]{f g:FuncId}{fn:Func}{c:Code}{r:Tmp}{args:Array Value}{w:World}{E:World->Prop}{Post:Value->World->Prop}
 (Wl:WF f)(hi:Pf.P.inits.idxOf? f=none)(Ia:PW w)(hf:Pf.P.funcs[f]? =some fn)(hb:fn.body=some c)(Av:fn.results= #[.tmp r])
 (P7:Y0 (Z6 Pf.P Pf.fs) c (Zpz g r E) {tmps:=args++Array.replicate (fn.ntmps - args.size) undef,defers:=[]} (clean Wob w))
 {gn:Func}(hgf:Pf.P.funcs[g]? =some gn)(hgn:(gn.name== "runtime.NumGoroutine")=false)(Q1:gn.body.isNone=false)
 (Ci:∀(lf:Frame)(w1:World)(t:Trace),E (clean Wob w1)->Jn Wob w w1->w.heap.size<=w1.heap.size->Past (λ_=>False) w1.heap.size t->(∀op∈t,op.g=0)->
   (∀v w',(∀d,Post v (w'.at d))->Goes Pf.P true AtRel (λ_ _ es=>es= #[]) (λg w1=>g.status= .running/\∃x,stepG Pf.P true g w1= .ended (.done x) w1 #[]/\Post x w1) 3 (G (lf.finish v) []) w')->
   ∃N last o w' t',runNT Pf.P (N+1) (crowd #[G (Frame.enter Pf.P g #[] .normal) [lf]] w1 none) t=(.ended o w',t')/\runN Pf.P N (crowd #[G (Frame.enter Pf.P g #[] .normal) [lf]] w1 none)= .next last/\step Pf.P last= .ended o w'/\
    Go.Conc.Good Pf.P Post last o w' t'):
 ∃N last o w' t',runNT Pf.P (N+1) (Go.Conc.solo (G (Frame.enter Pf.P f args .normal) []) w) #[]=(.ended o w',t')/\runN Pf.P N (Go.Conc.solo (G (Frame.enter Pf.P f args .normal) []) w)= .next last/\step Pf.P last= .ended o w'/\
  Go.Conc.Good Pf.P Post last o w' t':=by
 obtain⟨b,Dv⟩:∃b:Frame,b={(default:Frame) with fn:=f,kind:= .normal}:=⟨_,rfl⟩;have P8:Frame.enter Pf.P f args .normal=b.at {tmps:=args++Array.replicate (fn.ntmps - args.size) undef,defers:=[]} [.code c]:=by
  subst Dv;simp[Frame.enter,Frame.at,hf,hb]
 have hbf:b.fn=f:=by rw[Dv]
 have Dr:b.kind= .normal:=by rw[Dv]
 obtain⟨x,a',k',u,⟨id,s,t1,p1,f1,t2,p2,f2,rfl,hs,hr,hd,hE⟩,Ai⟩:=P7 b [] [trap];have Gf:Steps (Z6 Pf.P Pf.fs) (lone (Frame.enter Pf.P f args .normal) ([]++[trap]) (clean Wob w)) (lone (b.at a' (.inRegion #[⟨some s,.call {callee:= .value (.func g),args:= #[],argTypes:= #[]},t1,p1,f1,none⟩,⟨some r,.assign (.tmp s),t2,p2,f2,none⟩] [0,1]:: .code .ret::k')) ([]++[trap]) u):=by
  rw[P8];exact Ai.trans (.head step_seq (.one step_region))
 obtain⟨n,hn⟩:=Gf;obtain⟨w2,t2',rfl,hj,q1,q2,q3,q4⟩:=carry n hn (show SO _ _ from⟨FO.enter Wl _,rfl⟩) Ia (t:= #[]) (past_nil.mono (XS _)) (λop h=>by simp at h);obtain⟨lf,hlf⟩:∃lf,lf=b.at a' (.inRegion #[⟨some s,.call {callee:= .value (.func g),args:= #[],argTypes:= #[]},t1,p1,f1,none⟩,⟨some r,.assign (.tmp s),t2,p2,f2,none⟩] [0,1]:: .code .ret::k'):=⟨_,rfl⟩;have Ag:stepG Pf.P true (G lf []) w2= .go (G (Frame.enter Pf.P g #[] .normal) [lf]) w2 #[]:=by
  rw[hlf];have h1:=stepG_op (P:=Pf.P) (b:=b) (a:=a') (k:= .code .ret::k') (cs:=[]) (w:=w2) (ops:= #[⟨some s,.call {callee:= .value (.func g),args:= #[],argTypes:= #[]},t1,p1,f1,none⟩,⟨some r,.assign (.tmp s),t2,p2,f2,none⟩]) (i:=0) (rest:=[1]) (o:=⟨some s,.call {callee:= .value (.func g),args:= #[],argTypes:= #[]},t1,p1,f1,none⟩) rfl rfl;unfold G;rw[h1];have h3:(execOp a'.eval ⟨some s,.call {callee:= .value (.func g),args:= #[],argTypes:= #[]},t1,p1,f1,none⟩).runT Pf.P w2 #[]=(.ok (.enter g #[]) w2,#[]):=by
   have h6:execOp a'.eval ⟨some s,.call {callee:= .value (.func g),args:= #[],argTypes:= #[]},t1,p1,f1,none⟩=callFunc g #[]:=by
    show(resolve a'.eval {callee:= .value (.func g),args:= #[],argTypes:= #[]} t1).bind (λd=>invoke d.target d.args)=_;have h7:resolve a'.eval {callee:= .value (.func g),args:= #[],argTypes:= #[]} t1= .pure {target:= .fn (.func g) #[],args:= #[]}:=by
     unfold resolve;simp only[Array.map_empty];rfl
    rw[h7];rfl
   rw[h6];exact ZoK hgf hgn Q1 _ _ _
  have hk:((b.at a' (.inRegion #[⟨some s,.call {callee:= .value (.func g),args:= #[],argTypes:= #[]},t1,p1,f1,none⟩,⟨some r,.assign (.tmp s),t2,p2,f2,none⟩] [0,1]:: .code .ret::k')).kind==CallKind.early)=false:=by show(b.kind==_)=false;rw[Dr];rfl
  simp only[stepG.apply,XQ,h3,hk,YR,XZ];simp[GStep.after,seen,Frame.at]
 have A4:=λv w' hp=>Zqs (P:=Pf.P) hi hf Av hbf Dr (k:=k') (o1:=⟨some s,.call {callee:= .value (.func g),args:= #[],argTypes:= #[]},t1,p1,f1,none⟩) (t2:=t2) (p2:=p2) (f2:=f2) rfl hs hr hd (v:=v) (w:=w') (Post:=Post) hp
 rw[<-hlf] at A4 q1;obtain⟨N,last,o,w',t',r1,r2,r3,r4⟩:=Ci lf w2 t2' hE hj q4 q2 q3 A4;have e:stepT Pf.P (crowd #[G lf []] w2 none)=(.next (crowd #[G (Frame.enter Pf.P g #[] .normal) [lf]] w2 none),MemOp.ofEvents 0 lf.fn lf.place #[]):=by
  rw[<-QC,stepT_solo rfl,QC];have:=RH (P:=Pf.P) (gs:= #[G lf []]) (sl:=none) (i:=0) (g:=G lf []) rfl (show stepG Pf.P (0==0) (G lf []) w2=_ from Ag);simp only[TM,VC,VQ] at this;exact this
 have e0:MemOp.ofEvents 0 lf.fn lf.place #[]= #[]:=rfl;rw[e0] at e;have e1:runNT Pf.P (N+1+1) (crowd #[G lf []] w2 none) t2'=(.ended o w',t'):=by
  simp only[runNT,e,Array.append_empty];exact r1
 refine⟨n+(N+1),last,o,w',t',?_,?_,r3,r4⟩
 ·rw[QC,TK];exact Go.Nk.runNT_cat q1 e1
 ·have q5:runN Pf.P n (crowd #[G (Frame.enter Pf.P f args .normal) []] w none)= .next (crowd #[G lf []] w2 none):=by rw[<-runNT_fst Pf.P n _ #[],q1]
  rw[QC,runN_add,q5];show runN Pf.P (N+1) _=_;rw[<-runNT_fst Pf.P (N+1) _ t2'];simp only[runNT,e,Array.append_empty];rw[runNT_fst];exact r2
end Go.Ns
section
namespace Go.Ns
open Go Go.Conc
theorem ZkH{G:Code->Act->World->Prop}(h:c=c')(H:Y0 P c' G a w):Y0 P c G a w:=h▸H
def rest:Nat->Code->Code
 |n+1,.seq _ y=>rest n y
 |_,c=>c
end Go.Ns
namespace Go.Proofs.Tryp
open Go Go.Nk Go.Ns Go.RowKit Go.Shelf Go.Proofs Go.Proofs.Tryq
attribute [local instance] k3
noncomputable def body4:Code:=Tryz.f4.body.getD .skip
def Ar(f:Nat->Value)(p q:Value):Array Value:=((List.range 133).map λi=>if i=2 then p else if i=3 then q else f i).toArray
theorem Zru(hz:T.size=133)(h2:T[2]? =some p)(h3:T[3]? =some q):∃f,T=Ar f p q:=by
 refine⟨λi=>T[i]?.getD undef,?_⟩;apply Array.ext_getElem?;intro i;simp only[Ar,YC,List.getElem?_map];by_cases hi:i<133
 ·rw[List.getElem?_range hi];obtain⟨x,hx⟩:∃x,T[i]? =some x:=⟨_,YN (by omega)⟩;simp only[XI];split
  ·subst i;exact h2
  ·split
   ·subst i;exact h3
   ·rw[hx];rfl
 ·rw[Array.getElem?_eq_none (by omega),List.getElem?_eq_none (by simp;omega)];rfl
def Zrt(n:Nat)(w W:World)(G:Code->Act->World->Prop):Prop:=∀T:Array Value,T.size=133->T[2]? =some (.pointer (some ⟨w.heap.size,0,none⟩))->T[3]? =some (.pointer (some ⟨w.heap.size+1,0,none⟩))->Y0 Tryp.prog (rest n body4) G {tmps:=T,defers:=[]} W
theorem Zqt(F:Int)(h0:¬F=0)(a b c m a2 b2 c2 m2:Int)(base base2:Option Addr)(n cap n2 cap2:Nat)(w W:World)(txt:List UInt8)(hE:Ext w W)
 (hs:W.heap[w.heap.size]? =some (.cells #[a,b,c,m,.slice base n cap] 26))(hc:W.heap[w.heap.size+1]? =some (.cells #[a2,b2,c2,m2,.slice base2 n2 cap2] 31))(G:Code->Act->World->Prop)
 (hK:∀W,Ext w W->W.heap[w.heap.size]? =some (.cells #[a,b,c,m,.slice base n cap] 26)->W.heap[w.heap.size+1]? =some (.cells #[a2,b2,c2,m2,.slice base2 n2 cap2] 31)->Zrt 5 w W G)
 (K4:∀W,Ext w W->Calls Tryp.prog 7 #[.agg #[a,b,c,m,.slice base n cap]] W λe w'=>e= .returned (.tuple #[str [],F])/\Ext W w')
 (B3:∀W,Ext w W->Calls Tryp.prog 17 #[.agg #[a,b,c,m,.slice base n cap]] W λe w'=>e= .returned (.int .i64 F)/\Ext W w'):
 Zrt 2 w W G:=by
 intro T hz h2 h3;obtain⟨f,rfl⟩:=Zru hz h2 h3;simp only[Ar,List.range,List.range.loop,List.map,Nat.reduceEqDiff,XQ,XZ];replace hK:Hid _:=hK;obtain⟨q0,q1,q2,q3,q4⟩:=Zgj hs;refine ZkH (c':= .seq _ (.seq _ (.seq _ _))) rfl ?_;refine Znq λK hk=> ?_
 go_wp2_with (first
  |(go_at_call 7;refine(K4 _ hE).mono ?_;rintro e W1 ⟨rfl,Ab⟩
    replace hE:=hE.trans Ab;replace hs:=Ab.get hs;replace hc:=Ab.get hc;clear Ab q0 q1 q2 q3 q4;obtain⟨q0,q1,q2,q3,q4⟩:=Zgj hs)
  |(go_at_call 17;refine(B3 _ hE).mono ?_;rintro e W2 ⟨rfl,A4⟩
    replace hE:=hE.trans A4;replace hs:=A4.get hs;replace hc:=A4.get hc;clear A4 q0 q1 q2 q3 q4;obtain⟨q0,q1,q2,q3,q4⟩:=Zgj hs))
 refine Znq λK hk=> ?_
 go_wp2_with (first
  |(go_at_call 7;refine(K4 _ hE).mono ?_;rintro e W1 ⟨rfl,Ab⟩
    replace hE:=hE.trans Ab;replace hs:=Ab.get hs;replace hc:=Ab.get hc;clear Ab q0 q1 q2 q3 q4;obtain⟨q0,q1,q2,q3,q4⟩:=Zgj hs)
  |(go_at_call 17;refine(B3 _ hE).mono ?_;rintro e W2 ⟨rfl,A4⟩
    replace hE:=hE.trans A4;replace hs:=A4.get hs;replace hc:=A4.get hc;clear A4 q0 q1 q2 q3 q4;obtain⟨q0,q1,q2,q3,q4⟩:=Zgj hs))
 refine Znq λK hk=> ?_
 go_wp2;refine ZkH (c':=rest 5 body4) (by kernel_rfl) ?_;exact hK.out _ hE hs hc _ rfl rfl rfl
theorem ZpR(L:List Sf)(a b c m a2 b2 c2 m2:Int)(base base2:Option Addr)(n cap n2 cap2:Nat)(w W:World)(txt:List UInt8)(hE:Ext w W)
 (hs:W.heap[w.heap.size]? =some (.cells #[a,b,c,m,.slice base n cap] 26))(hc:W.heap[w.heap.size+1]? =some (.cells #[a2,b2,c2,m2,.slice base2 n2 cap2] 31))(G:Code->Act->World->Prop)
 (hK:∀W,Ext w W->W.heap[w.heap.size]? =some (.cells #[a,b,c,m,.slice base n cap] 26)->W.heap[w.heap.size+1]? =some (.cells #[a2,b2,c2,m2,.slice base2 n2 cap2] 31)->Zrt 5 w W G)
 (Q5:2<=txt.length)(Gv:txt.length<=4611686018427387904)
 (K4:∀W,Ext w W->Calls Tryp.prog 7 #[.agg #[a,b,c,m,.slice base n cap]] W λe w'=>e= .returned (.tuple #[str txt,.int .i64 0])/\Ext W w')
 (B3:∀W,Ext w W->Calls Tryp.prog 17 #[.agg #[a,b,c,m,.slice base n cap]] W λe w'=>e= .returned (.int .i64 0)/\Ext W w')
 (P9:∀W (i:Nat),i<2->Ext w W->Calls Tryp.prog 11 #[str (txt.take (txt.length - i))] W λe w'=>∃bs cp,e= .returned (.tuple #[.agg #[a,b,c,m,.slice bs n cp],.int .i64 0,.int .i64 0])/\RawA w' bs L/\Ext W w')
 (hsm:∀W bs cp,Ext w W->RawA W bs L->Calls Tryp.prog 13 #[.agg #[a,b,c,m,.slice bs n cp],.agg #[a,b,c,m,.slice base n cap]] W λe w'=>e= .returned (.bool true)/\Ext W w'):
 Zrt 2 w W G:=by
 intro T hz h2 h3;obtain⟨f,rfl⟩:=Zru hz h2 h3;simp only[Ar,List.range,List.range.loop,List.map,Nat.reduceEqDiff,XQ,XZ];replace hK:Hid _:=hK
 have Ku:∀(k:Nat)(w:World),k<=txt.length->(Instr.slice 9 (str txt) none (some (.int .i64 (k:Int))) none).run Tryp.prog w= .ok (str (txt.take k)) w:=λk w hk=>by
  have h9:Tryp.prog.underlying 9=some .string:=by kernel_rfl
  simp[go_sem,h9,ByteArray.size,hk];apply ByteArray.ext;simp
 obtain⟨q0,q1,q2,q3,q4⟩:=Zgj hs;refine ZkH (c':= .seq _ (.seq _ (.seq _ _))) rfl ?_;refine Znq λK hk=> ?_
 go_wp2_with (first
  |(go_at_call 7;refine(K4 _ hE).mono ?_;rintro e W1 ⟨rfl,Ab⟩
    replace hE:=hE.trans Ab;replace hs:=Ab.get hs;replace hc:=Ab.get hc;clear Ab q0 q1 q2 q3 q4;obtain⟨q0,q1,q2,q3,q4⟩:=Zgj hs)
  |(go_at_call 17;refine(B3 _ hE).mono ?_;rintro e W2 ⟨rfl,A4⟩
    replace hE:=hE.trans A4;replace hs:=A4.get hs;replace hc:=A4.get hc;clear A4 q0 q1 q2 q3 q4;obtain⟨q0,q1,q2,q3,q4⟩:=Zgj hs))
 refine Znq λK hk=> ?_
 go_wp2_with (first
  |(go_at_call 7;refine(K4 _ hE).mono ?_;rintro e W1 ⟨rfl,Ab⟩
    replace hE:=hE.trans Ab;replace hs:=Ab.get hs;replace hc:=Ab.get hc;clear Ab q0 q1 q2 q3 q4;obtain⟨q0,q1,q2,q3,q4⟩:=Zgj hs)
  |(go_at_call 17;refine(B3 _ hE).mono ?_;rintro e W2 ⟨rfl,A4⟩
    replace hE:=hE.trans A4;replace hs:=A4.get hs;replace hc:=A4.get hc;clear A4 q0 q1 q2 q3 q4;obtain⟨q0,q1,q2,q3,q4⟩:=Zgj hs))
 refine Znq λK hk=> ?_
 go_wp2;go_loopw [7] (λv7 wr=>∃i:Nat,i<=2/\v7= .int .i64 i/\Ext w wr/\wr.heap[w.heap.size]? =some (.cells #[a,b,c,m,.slice base n cap] 26)/\wr.heap[w.heap.size+1]? =some (.cells #[a2,b2,c2,m2,.slice base2 n2 cap2] 31)) (λv7 _=>2 - (intOf v7).toNat)
 case atStart=>exact⟨0,by omega,rfl,hE,hs,hc⟩
 case round=>
  clear hE hs hc q0 q1 q2 q3 q4;obtain⟨i,hi,rfl,hE,hs,hc⟩:=hrel;by_cases Ao:i=2
  ·subst Ao;go_wp2;refine ZkH (c':=rest 5 body4) (by kernel_rfl) ?_;exact hK.out _ hE hs hc _ rfl rfl rfl
  ·have A3:(i:Int)<2:=by omega
   have E6:(i:Int)<(txt.length:Int):=by omega
   replace P9:=λW=>P9 W i (by omega)
   replace Ku:=λW=>Ku (txt.length - i) W (by omega)
   have Ed:((txt.length - i:Nat):Int)=(txt.length:Int) - i:=by omega
   rw[Ed] at Ku
   go_wp2_with (first
    |(go_at_call 11;refine(P9 _ hE).mono ?_;rintro e W1 ⟨bs,cp,rfl,hR,Ab⟩
      replace hE:=hE.trans Ab;replace hs:=Ab.get hs;replace hc:=Ab.get hc;have eA:=(Ext.rfl' W1).alloc (.cells #[a,b,c,m,.slice bs n cp] 26);have Cg:=eA.get hs;have Ij:=eA.get hc;have Ah:=hE.trans eA;have hR3:=hR.ext eA;obtain⟨q0,q1,q2,q3,q4⟩:=Zgj Cg;clear Ab hs hc hE eA hR)
    |(go_at_call 13;refine(hsm _ _ _ Ah hR3).mono ?_;rintro e W2 ⟨rfl,A4⟩))
   exact⟨⟨i+1,by omega,by push_cast;rfl,Ah.trans A4,A4.get Cg,A4.get Ij⟩,by simp[intOf];omega⟩
theorem ZqR(F:Int)(h0:¬F=0)(a b c m a2 b2 c2 m2:Int)(base base2:Option Addr)(n cap n2 cap2:Nat)(w W:World)(txt:List UInt8)(hE:Ext w W)
 (hs:W.heap[w.heap.size]? =some (.cells #[a,b,c,m,.slice base n cap] 26))(hc:W.heap[w.heap.size+1]? =some (.cells #[a2,b2,c2,m2,.slice base2 n2 cap2] 31))(G:Code->Act->World->Prop)
 (hK:∀W,Ext w W->W.heap[w.heap.size]? =some (.cells #[a,b,c,m,.slice base n cap] 26)->W.heap[w.heap.size+1]? =some (.cells #[a2,b2,c2,m2,.slice base2 n2 cap2] 31)->Zrt 8 w W G)
 (K4:∀W,Ext w W->Calls Tryp.prog 9 #[.agg #[a2,b2,c2,m2,.slice base2 n2 cap2]] W λe w'=>e= .returned (.tuple #[str [],F])/\Ext W w')
 (B3:∀W,Ext w W->Calls Tryp.prog 18 #[.agg #[a2,b2,c2,m2,.slice base2 n2 cap2]] W λe w'=>e= .returned (.int .i64 F)/\Ext W w'):
 Zrt 5 w W G:=by
 intro T hz h2 h3;obtain⟨f,rfl⟩:=Zru hz h2 h3;simp only[Ar,List.range,List.range.loop,List.map,Nat.reduceEqDiff,XQ,XZ];replace hK:Hid _:=hK;obtain⟨q0,q1,q2,q3,q4⟩:=Zgj hc;refine ZkH (c':= .seq _ (.seq _ (.seq _ _))) rfl ?_;refine Znq λK hk=> ?_
 go_wp2_with (first
  |(go_at_call 9;refine(K4 _ hE).mono ?_;rintro e W1 ⟨rfl,Ab⟩
    replace hE:=hE.trans Ab;replace hs:=Ab.get hs;replace hc:=Ab.get hc;clear Ab q0 q1 q2 q3 q4;obtain⟨q0,q1,q2,q3,q4⟩:=Zgj hc)
  |(go_at_call 18;refine(B3 _ hE).mono ?_;rintro e W2 ⟨rfl,A4⟩
    replace hE:=hE.trans A4;replace hs:=A4.get hs;replace hc:=A4.get hc;clear A4 q0 q1 q2 q3 q4;obtain⟨q0,q1,q2,q3,q4⟩:=Zgj hc))
 refine Znq λK hk=> ?_
 go_wp2_with (first
  |(go_at_call 9;refine(K4 _ hE).mono ?_;rintro e W1 ⟨rfl,Ab⟩
    replace hE:=hE.trans Ab;replace hs:=Ab.get hs;replace hc:=Ab.get hc;clear Ab q0 q1 q2 q3 q4;obtain⟨q0,q1,q2,q3,q4⟩:=Zgj hc)
  |(go_at_call 18;refine(B3 _ hE).mono ?_;rintro e W2 ⟨rfl,A4⟩
    replace hE:=hE.trans A4;replace hs:=A4.get hs;replace hc:=A4.get hc;clear A4 q0 q1 q2 q3 q4;obtain⟨q0,q1,q2,q3,q4⟩:=Zgj hc))
 refine Znq λK hk=> ?_
 go_wp2;refine ZkH (c':=rest 8 body4) (by kernel_rfl) ?_;exact hK.out _ hE hs hc _ rfl rfl rfl
theorem Zqu(S:List Rs)(a b c m a2 b2 c2 m2:Int)(base base2:Option Addr)(n cap n2 cap2:Nat)(w W:World)(txt:List UInt8)(hE:Ext w W)
 (hs:W.heap[w.heap.size]? =some (.cells #[a,b,c,m,.slice base n cap] 26))(hc:W.heap[w.heap.size+1]? =some (.cells #[a2,b2,c2,m2,.slice base2 n2 cap2] 31))(G:Code->Act->World->Prop)
 (hK:∀W,Ext w W->W.heap[w.heap.size]? =some (.cells #[a,b,c,m,.slice base n cap] 26)->W.heap[w.heap.size+1]? =some (.cells #[a2,b2,c2,m2,.slice base2 n2 cap2] 31)->Zrt 8 w W G)
 (Q5:2<=txt.length)(Gv:txt.length<=4611686018427387904)
 (K4:∀W,Ext w W->Calls Tryp.prog 9 #[.agg #[a2,b2,c2,m2,.slice base2 n2 cap2]] W λe w'=>e= .returned (.tuple #[str txt,.int .i64 0])/\Ext W w')
 (B3:∀W,Ext w W->Calls Tryp.prog 18 #[.agg #[a2,b2,c2,m2,.slice base2 n2 cap2]] W λe w'=>e= .returned (.int .i64 0)/\Ext W w')
 (P9:∀W (i:Nat),i<2->Ext w W->Calls Tryp.prog 14 #[str (txt.take (txt.length - i))] W λe w'=>∃bs cp,e= .returned (.tuple #[.agg #[a2,b2,c2,m2,.slice bs n2 cp],.int .i64 0,.int .i64 0])/\RawS w' bs S/\Ext W w')
 (hsm:∀W bs cp,Ext w W->RawS W bs S->Calls Tryp.prog 16 #[.agg #[a2,b2,c2,m2,.slice bs n2 cp],.agg #[a2,b2,c2,m2,.slice base2 n2 cap2]] W λe w'=>e= .returned (.bool true)/\Ext W w'):
 Zrt 5 w W G:=by
 intro T hz h2 h3;obtain⟨f,rfl⟩:=Zru hz h2 h3;simp only[Ar,List.range,List.range.loop,List.map,Nat.reduceEqDiff,XQ,XZ];replace hK:Hid _:=hK
 have Ku:∀(k:Nat)(w:World),k<=txt.length->(Instr.slice 9 (str txt) none (some (.int .i64 (k:Int))) none).run Tryp.prog w= .ok (str (txt.take k)) w:=λk w hk=>by
  have h9:Tryp.prog.underlying 9=some .string:=by kernel_rfl
  simp[go_sem,h9,ByteArray.size,hk];apply ByteArray.ext;simp
 obtain⟨q0,q1,q2,q3,q4⟩:=Zgj hc;refine ZkH (c':= .seq _ (.seq _ (.seq _ _))) rfl ?_;refine Znq λK hk=> ?_
 go_wp2_with (first
  |(go_at_call 9;refine(K4 _ hE).mono ?_;rintro e W1 ⟨rfl,Ab⟩
    replace hE:=hE.trans Ab;replace hs:=Ab.get hs;replace hc:=Ab.get hc;clear Ab q0 q1 q2 q3 q4;obtain⟨q0,q1,q2,q3,q4⟩:=Zgj hc)
  |(go_at_call 18;refine(B3 _ hE).mono ?_;rintro e W2 ⟨rfl,A4⟩
    replace hE:=hE.trans A4;replace hs:=A4.get hs;replace hc:=A4.get hc;clear A4 q0 q1 q2 q3 q4;obtain⟨q0,q1,q2,q3,q4⟩:=Zgj hc))
 refine Znq λK hk=> ?_
 go_wp2_with (first
  |(go_at_call 9;refine(K4 _ hE).mono ?_;rintro e W1 ⟨rfl,Ab⟩
    replace hE:=hE.trans Ab;replace hs:=Ab.get hs;replace hc:=Ab.get hc;clear Ab q0 q1 q2 q3 q4;obtain⟨q0,q1,q2,q3,q4⟩:=Zgj hc)
  |(go_at_call 18;refine(B3 _ hE).mono ?_;rintro e W2 ⟨rfl,A4⟩
    replace hE:=hE.trans A4;replace hs:=A4.get hs;replace hc:=A4.get hc;clear A4 q0 q1 q2 q3 q4;obtain⟨q0,q1,q2,q3,q4⟩:=Zgj hc))
 refine Znq λK hk=> ?_
 go_wp2;go_loopw [11] (λv7 wr=>∃i:Nat,i<=2/\v7= .int .i64 i/\Ext w wr/\wr.heap[w.heap.size]? =some (.cells #[a,b,c,m,.slice base n cap] 26)/\wr.heap[w.heap.size+1]? =some (.cells #[a2,b2,c2,m2,.slice base2 n2 cap2] 31)) (λv7 _=>2 - (intOf v7).toNat)
 case atStart=>exact⟨0,by omega,rfl,hE,hs,hc⟩
 case round=>
  clear hE hs hc q0 q1 q2 q3 q4;obtain⟨i,hi,rfl,hE,hs,hc⟩:=hrel;by_cases Ao:i=2
  ·subst Ao;go_wp2;refine ZkH (c':=rest 8 body4) (by kernel_rfl) ?_;exact hK.out _ hE hs hc _ rfl rfl rfl
  ·have A3:(i:Int)<2:=by omega
   have E6:(i:Int)<(txt.length:Int):=by omega
   replace P9:=λW=>P9 W i (by omega)
   replace Ku:=λW=>Ku (txt.length - i) W (by omega)
   have Ed:((txt.length - i:Nat):Int)=(txt.length:Int) - i:=by omega
   rw[Ed] at Ku
   go_wp2_with (first
    |(go_at_call 14;refine(P9 _ hE).mono ?_;rintro e W1 ⟨bs,cp,rfl,hR,Ab⟩
      replace hE:=hE.trans Ab;replace hs:=Ab.get hs;replace hc:=Ab.get hc;have eA:=(Ext.rfl' W1).alloc (.cells #[a2,b2,c2,m2,.slice bs n2 cp] 31);have Cg:=eA.get hs;have Ij:=eA.get hc;have Ah:=hE.trans eA;have hR3:=hR.ext eA;obtain⟨q0,q1,q2,q3,q4⟩:=Zgj Ij;clear Ab hs hc hE eA hR)
    |(go_at_call 16;refine(hsm _ _ _ Ah hR3).mono ?_;rintro e W2 ⟨rfl,A4⟩))
   exact⟨⟨i+1,by omega,by push_cast;rfl,Ah.trans A4,A4.get Cg,A4.get Ij⟩,by simp[intOf];omega⟩
end Go.Proofs.Tryp
end
namespace Go.Proofs.Tryq
open Go Go.Nk Go.RowKit
@[go_sem] theorem eq46 (a b c d a' b' c' d':Int) (w:World):(Op.equalIn 10000 81 (.agg #[a,b,c,d]) (.agg #[a',b',c',d'])).run prog w= .ok (a==a'&&b==b'&&c==c'&&d==d') w:=by
  have u3:prog.underlying 3=some (.int .i64):=(underlying_eq 3).trans Tryz.underlying3;have u44:prog.underlying 79=some (.int .i64):=(underlying_eq 79).trans Tryz.underlying79;have u30:prog.underlying 54=some (.int .i64):=(underlying_eq 54).trans Tryz.underlying54;have a3:=Tryz.isAgg3;have z3:=Tryz.sizeOf3;have hS:prog.underlying 81=some (.struct (prog.fieldsOf 81)):=by kernel_rfl
  have hp:prog.stoodInHeld 81=false:=by kernel_rfl
  rw[show(10000:Nat)=9999+1 from rfl,SL w 9999 81 _ _ hS hp];simp only[Program.fieldsOf,underlying_eq,Tryz.underlying81];go_simp;by_cases h1:a=a'<;>by_cases h2:b=b'<;>by_cases h3:c=c'<;>by_cases h4:d=d'<;>simp[h1,h2,h3,h4]
@[go_sem] theorem guard46 (op:BinOp) (p q:Operand) (xs ys:Array Value) (w:World):(eqGuard op 81 p q (.agg xs) (.agg ys)).run prog w= .ok () w:=RF w op 81 p q xs ys (by kernel_rfl)
def apB(x y:Ap):Bool:=x.p==y.p&&x.q==y.q&&(x.k:Int)==(y.k:Int)&&x.s==y.s
def apsB:List Ap->List Ap->Bool
 |[],[]=>true
 |x::l,y::k=>apB x y&&apsB l k
 |_,_=>false
theorem Z67{l k:List Ap}{x y:Ap}(hx:l[i]? =some x)(hy:k[i]? =some y):apsB (l.drop i) (k.drop i)=(apB x y&&apsB (l.drop (i+1)) (k.drop (i+1))):=by rw[Z0b hx,Z0b hy];rfl
theorem apsB_len:∀{l k:List Ap},l.length≠k.length->apsB l k=false
 |[],[],h=>absurd rfl h
 |[],_::_,_=>rfl
 |_::_,[],_=>rfl
 |x::l,y::k,h=>by rw[apsB,apsB_len (l:=l) (k:=k) (by simpa using h),Bool.and_false]
def RawAp(w:World)(base:Option Addr)(A:List Ap):Prop:=∀(i:Nat)(x:Ap),A[i]? =some x->∃b off,base=some ⟨b,off,none⟩/\b<w.heap.size/\(w.cell? ⟨b,off+i*4,none⟩=some (.int .i64 x.p)/\w.cell? ⟨b,off+i*4+1,none⟩=some (.int .i64 x.q)/\w.cell? ⟨b,off+i*4+2,none⟩=some (.int .i64 x.k)/\w.cell? ⟨b,off+i*4+3,none⟩=some (.int .i64 x.s))
theorem RawAp.ext{base:Option Addr}{A:List Ap}(h:RawAp w base A)(e:Ext w w'):RawAp w' base A:=by
 intro i x hi;obtain⟨b,off,h1,h2,h3,h4,h5,h6⟩:=h i x hi;exact⟨b,off,h1,e.lt h2,e.cellS h3,e.cellS h4,e.cellS h5,e.cellS h6⟩
theorem Z25(a1:Option Addr)(n1 c1:Nat)(l:List Ap)(a2:Option Addr)(n2 c2:Nat)(k:List Ap)(w:World)(h1:l.length=n1)(h2:k.length=n2)(hb:n1<=1000000/\n2<=1000000)(hl:RawAp w a1 l)(hk:RawAp w a2 k):
 Calls prog 33 #[.slice a1 n1 c1,.slice a2 n2 c2] w λe w'=>e= .returned (.bool (apsB l k))/\Ext w w':=by
 by_cases hn:n1=n2
 ·have H:Hid (apsB l k=apsB (l.drop 0) (k.drop 0)):=rfl;subst hn;obtain⟨n,hn⟩:∃n,n=n1:=⟨_,rfl⟩;subst hn;go_enter fk Tryz.func33,Tryz.ntmps33;go_wp2;go_loopw [5] (λv wr=>∃i:Nat,i<=n/\v= .int .i64 i/\Ext w wr/\Hid (apsB l k=apsB (l.drop i) (k.drop i))) (λv _=>n - (intOf v).toNat)
  case atStart=>exact⟨0,XS _,rfl,Ext.rfl' w,H⟩
  case round=>
   obtain⟨i,hi,rfl,hE,hH⟩:=hrel;clear H;by_cases Ao:i=n
   ·subst Ao;have hz:apsB l k=true:=(by rw[hH.out,Z1Z h1,Z1Z h2];rfl);go_wp2;go_ret;exact⟨ZP (a:=true) hz.symm,hE⟩
   ·have A3:i<n:=(by omega);obtain⟨x,hx⟩:∃x,l[i]? =some x:=⟨_,YH (by omega)⟩;obtain⟨y,hy⟩:∃y,k[i]? =some y:=⟨_,YH (by omega)⟩;obtain⟨ba,oa,rfl,Pn,Fx⟩:=(hl.ext hE) i x hx;obtain⟨bb,ob,rfl,Rv,hyb⟩:=(hk.ext hE) i y hy;have eqAp:(!(x.p==y.p&&x.q==y.q&&(x.k:Int)==(y.k:Int)&&x.s==y.s))= !apB x y:=rfl;go_wp2_with fail;have gz0:=Zet Fx.1;have gz1:=Zet Fx.2.1;have gz2:=Zet Fx.2.2.1;have gz3:=Zet Fx.2.2.2;have gz4:=Zet hyb.1;have gz5:=Zet hyb.2.1;have gz6:=Zet hyb.2.2.1;have gz7:=Zet hyb.2.2.2;refine ZeG 9 (by kernel_rfl) ?_;refine ZeB [0,1,2,3,4,5,6,7,8] (by kernel_rfl) (by kernel_rfl) ?_;simp only[ZeD,YB,YA,YK,YJ]
    repeat (go_big_quiet_step (fail))
    refine XU ?_;refine Zf6 (by kernel_rfl) (λW hW=> ?_);have Bf:=hW;clear gz0 gz1 gz2 gz3 gz4 gz5 gz6 gz7;have C6:=hE.trans Bf;by_cases Cz:apB x y=true
    ·have hb:(!apB x y)=false:=(by simp[Cz]);have Eu:Hid (apsB l k=apsB (l.drop (i+1)) (k.drop (i+1))):=(by show _=_;rw[hH.out,Z67 hx hy,Cz,TL]);rw[hb];clear hb;go_wp2;go_roundw
     case rel=>exact⟨i+1,by omega,by push_cast;rfl,C6,Eu⟩
     case measure=>simp[intOf];omega
    ·have hb:(!apB x y)=true:=(by simpa using Cz);have Eu:apsB l k=false:=(by rw[hH.out,Z67 hx hy,(by simpa using Cz:apB x y=false),QA]);rw[hb];clear hb;go_wp2;go_ret;exact⟨ZP (a:=false) Eu.symm,C6⟩
 ·have hz:apsB l k=false:=apsB_len (by omega);have hnn:¬(n1:Int)=(n2:Int):=by omega
  go_enter fk Tryz.func33,Tryz.ntmps33;go_wp2;go_ret;exact⟨ZP (a:=false) hz.symm,Ext.rfl' w⟩
theorem Z7J(w:World)(a:Addr)(v:Value):(w.setCell a v).heap.size=w.heap.size:=(VI w a v).size
def exL:List Sf:=[⟨⟨#[97]⟩,400,405,700,700,250,252⟩,⟨⟨#[98]⟩,404,408,701,701,251,251⟩,⟨⟨#[99]⟩,398,402,700,701,249,250⟩,⟨⟨#[100]⟩,409,412,700,700,255,255⟩,⟨⟨#[101]⟩,402,402,702,702,252,254⟩,⟨⟨#[102]⟩,405,406,701,702,253,253⟩,⟨⟨#[103]⟩,450,450,700,700,250,250⟩]
def exC:Array Value:=(exL.flatMap λx=>(sfC x).toList).toArray
theorem exC_eq:exC= #[.string ⟨#[97]⟩,.int .i64 400,.int .i64 405,.int .i64 700,.int .i64 700,.int .i64 250,.int .i64 252,.string ⟨#[98]⟩,.int .i64 404,.int .i64 408,.int .i64 701,.int .i64 701,.int .i64 251,.int .i64 251,.string ⟨#[99]⟩,.int .i64 398,.int .i64 402,.int .i64 700,.int .i64 701,.int .i64 249,.int .i64 250,.string ⟨#[100]⟩,.int .i64 409,.int .i64 412,.int .i64 700,.int .i64 700,.int .i64 255,.int .i64 255,.string ⟨#[101]⟩,.int .i64 402,.int .i64 402,.int .i64 702,.int .i64 702,.int .i64 252,.int .i64 254,.string ⟨#[102]⟩,.int .i64 405,.int .i64 406,.int .i64 701,.int .i64 702,.int .i64 253,.int .i64 253,.string ⟨#[103]⟩,.int .i64 450,.int .i64 450,.int .i64 700,.int .i64 700,.int .i64 250,.int .i64 250]:=by rfl
theorem Z6U(w:World):Calls prog 19 #[] w λe w'=>∃B,e= .returned (.agg #[.int .i64 10,.int .i64 2,.int .i64 5,.int .i64 3,.slice (some ⟨B,0,none⟩) 7 7])/\w'.heap[B]? =some (.cells exC 51)/\Ext w w':=by
 have Cw:=Ext.rfl' (w.alloc (.cells #[.int .i64 0,.int .i64 0,.int .i64 0,.int .i64 0,.slice none 0 0] 26));have Cl:(w.alloc (.cells #[.int .i64 0,.int .i64 0,.int .i64 0,.int .i64 0,.slice none 0 0] 26)).heap[w.heap.size]? =some (.cells #[.int .i64 0,.int .i64 0,.int .i64 0,.int .i64 0,.slice none 0 0] 26):=by rw[Z3,YZ rfl]
 go_enter fk Tryz.func19,Tryz.ntmps19
 go_wp2_with (
  go_at_call 30;refine(Z3P _ _ _).mono ?_;rintro e w2 ⟨rfl,A4⟩
  replace Cw:=Cw.trans A4;clear A4
  (try clear z0 z1 z2 z3 z4 y0 y1 y2 y3 y4 I5)
  have I5:=Z5 (Cw.get Cl);have z0:=Z8 (Cw.get Cl) 0;have z1:=Z8 (Cw.get Cl) 1;have z2:=Z8 (Cw.get Cl) 2;have z3:=Z8 (Cw.get Cl) 3;have z4:=Z8 (Cw.get Cl) 4;have y0:=Z0 (Cw.get Cl) 0;have y1:=Z0 (Cw.get Cl) 1;have y2:=Z0 (Cw.get Cl) 2;have y3:=Z0 (Cw.get Cl) 3;have y4:=Z0 (Cw.get Cl) 4;simp only[YC,YA,YB] at y0 y1 y2 y3 y4)
 have Gn:Ext w w2:=((Ext.rfl' w).alloc _).trans Cw;have C2:=(Zb (Zb (Zb (Zb (Zb (Cw.get Cl) (i:=0) (.int .i64 10)) (i:=1) (.int .i64 2)) (i:=2) (.int .i64 5)) (i:=3) (.int .i64 3)) (i:=4) (.slice (some ⟨w2.heap.size,0,none⟩) 7 7));have Bv:=(((((Gn.setCell ⟨w.heap.size,0,none⟩ (.int .i64 10) (XB _)).setCell ⟨w.heap.size,1,none⟩ (.int .i64 2) (XB _)).setCell ⟨w.heap.size,2,none⟩ (.int .i64 5) (XB _)).setCell ⟨w.heap.size,3,none⟩ (.int .i64 3) (XB _)).setCell ⟨w.heap.size,4,none⟩ (.slice (some ⟨w2.heap.size,0,none⟩) 7 7) (XB _));have Fh:w2.heap.size=(((((w2.setCell ⟨w.heap.size,0,none⟩ (.int .i64 10)).setCell ⟨w.heap.size,1,none⟩ (.int .i64 2)).setCell ⟨w.heap.size,2,none⟩ (.int .i64 5)).setCell ⟨w.heap.size,3,none⟩ (.int .i64 3)).setCell ⟨w.heap.size,4,none⟩ (.slice (some ⟨w2.heap.size,0,none⟩) 7 7)).heap.size:=by simp only[Z7J]
 have Nz:w2.heap.size≠w.heap.size:=by omega
 generalize World.setCell _ _ _=w9 at C2 Bv Fh⊢;have Ea:=((Ext.rfl' w9).alloc (.cells exC 51)).get C2;have s0:=Z0 Ea 0;have s1:=Z0 Ea 1;have s2:=Z0 Ea 2;have s3:=Z0 Ea 3;have s4:=Z0 Ea 4;simp at s0 s1 s2 s3 s4;rw[<-exC_eq];refine VE (v:= .agg #[.int .i64 10,.int .i64 2,.int .i64 5,.int .i64 3,.slice (some ⟨w2.heap.size,0,none⟩) 7 7]) ((Z07 rfl _ _ _).trans ?_) rfl ⟨w2.heap.size,rfl,by rw[Z3,YZ Fh],Bv.alloc _⟩;simp[go_sem,s0,s1,s2,s3,s4]
def exS:List Rs:=[⟨10,30,32,0,0⟩,⟨20,55,60,0,0⟩,⟨30,96,99,1,1⟩]
def rsC(x:Rs):List Value:=[.int .i64 x.a,.int .i64 x.m,.int .i64 x.M,.int .i64 x.wi,.int .i64 x.li]
def exD:Array Value:=(exS.flatMap rsC).toArray
theorem exD_eq:exD= #[.int .i64 10,.int .i64 30,.int .i64 32,.int .i64 0,.int .i64 0,.int .i64 20,.int .i64 55,.int .i64 60,.int .i64 0,.int .i64 0,.int .i64 30,.int .i64 96,.int .i64 99,.int .i64 1,.int .i64 1]:=by rfl
theorem Zar(w:World):Calls prog 20 #[] w λe w'=>∃B,e= .returned (.agg #[.int .i64 2,.int .i64 4,.int .i64 1,.int .i64 2,.slice (some ⟨B,0,none⟩) 3 3])/\w'.heap[B]? =some (.cells exD 75)/\Ext w w':=by
 have Cw:=Ext.rfl' (w.alloc (.cells #[.int .i64 0,.int .i64 0,.int .i64 0,.int .i64 0,.slice none 0 0] 31));have Cl:(w.alloc (.cells #[.int .i64 0,.int .i64 0,.int .i64 0,.int .i64 0,.slice none 0 0] 31)).heap[w.heap.size]? =some (.cells #[.int .i64 0,.int .i64 0,.int .i64 0,.int .i64 0,.slice none 0 0] 31):=by rw[Z3,YZ rfl]
 go_enter fk Tryz.func20,Tryz.ntmps20
 go_wp2_with (
  go_at_call 30;refine(Z3P _ _ _).mono ?_;rintro e w2 ⟨rfl,A4⟩
  replace Cw:=Cw.trans A4;clear A4
  (try clear z0 z1 z2 z3 z4 y0 y1 y2 y3 y4 I5)
  have I5:=Z5 (Cw.get Cl);have z0:=Z8 (Cw.get Cl) 0;have z1:=Z8 (Cw.get Cl) 1;have z2:=Z8 (Cw.get Cl) 2;have z3:=Z8 (Cw.get Cl) 3;have z4:=Z8 (Cw.get Cl) 4;have y0:=Z0 (Cw.get Cl) 0;have y1:=Z0 (Cw.get Cl) 1;have y2:=Z0 (Cw.get Cl) 2;have y3:=Z0 (Cw.get Cl) 3;have y4:=Z0 (Cw.get Cl) 4;simp only[YC,YA,YB] at y0 y1 y2 y3 y4)
 have Gn:Ext w w2:=((Ext.rfl' w).alloc _).trans Cw;have C2:=(Zb (Zb (Zb (Zb (Zb (Cw.get Cl) (i:=0) (.int .i64 2)) (i:=1) (.int .i64 4)) (i:=2) (.int .i64 1)) (i:=3) (.int .i64 2)) (i:=4) (.slice (some ⟨w2.heap.size,0,none⟩) 3 3));have Bv:=(((((Gn.setCell ⟨w.heap.size,0,none⟩ (.int .i64 2) (XB _)).setCell ⟨w.heap.size,1,none⟩ (.int .i64 4) (XB _)).setCell ⟨w.heap.size,2,none⟩ (.int .i64 1) (XB _)).setCell ⟨w.heap.size,3,none⟩ (.int .i64 2) (XB _)).setCell ⟨w.heap.size,4,none⟩ (.slice (some ⟨w2.heap.size,0,none⟩) 3 3) (XB _));have Fh:w2.heap.size=(((((w2.setCell ⟨w.heap.size,0,none⟩ (.int .i64 2)).setCell ⟨w.heap.size,1,none⟩ (.int .i64 4)).setCell ⟨w.heap.size,2,none⟩ (.int .i64 1)).setCell ⟨w.heap.size,3,none⟩ (.int .i64 2)).setCell ⟨w.heap.size,4,none⟩ (.slice (some ⟨w2.heap.size,0,none⟩) 3 3)).heap.size:=by simp only[Z7J]
 have Nz:w2.heap.size≠w.heap.size:=by omega
 generalize World.setCell _ _ _=w9 at C2 Bv Fh⊢;have Ea:=((Ext.rfl' w9).alloc (.cells exD 75)).get C2;have s0:=Z0 Ea 0;have s1:=Z0 Ea 1;have s2:=Z0 Ea 2;have s3:=Z0 Ea 3;have s4:=Z0 Ea 4;simp at s0 s1 s2 s3 s4;rw[<-exD_eq];refine VE (v:= .agg #[.int .i64 2,.int .i64 4,.int .i64 1,.int .i64 2,.slice (some ⟨w2.heap.size,0,none⟩) 3 3]) ((Z07 rfl _ _ _).trans ?_) rfl ⟨w2.heap.size,rfl,by rw[Z3,YZ Fh],Bv.alloc _⟩;simp[go_sem,s0,s1,s2,s3,s4]
def stkV(B:Nat):Value:= .agg #[.int .i64 10,.int .i64 2,.int .i64 5,.int .i64 3,.slice (some ⟨B,0,none⟩) 7 7]
def ZdA(D n c:Nat):Value:= .agg #[.int .i64 2,.int .i64 4,.int .i64 1,.int .i64 2,.slice (some ⟨D,0,none⟩) n c]
def exS4:List Rs:=exS++[⟨20,70,70,0,0⟩]
theorem v_open0:Zo 10 2 5 3 exL []=0:=by kernel_rfl
theorem v_m1:Z1M 10 2 5 3 exL [0,1,2]=1/\Zo 10 2 5 3 exL [0,1,2]=0:=⟨by kernel_rfl,by kernel_rfl⟩
theorem v_m2:Z1M 10 2 5 3 exL [0,3]=0/\Zo 10 2 5 3 exL [0,3]=0:=⟨by kernel_rfl,by kernel_rfl⟩
theorem v_m3:Z1M 10 2 5 3 exL [0,6]=2/\Zo 10 2 5 3 exL [0,6]=0:=⟨by kernel_rfl,by kernel_rfl⟩
def exA:List Ap:=[⟨0,3,0,0⟩,⟨2,3,0,0⟩,⟨2,3,2,0⟩]
theorem v_ap:apsB (Z0Q 10 2 5 3 exL [0,2,3]) exA=true/\Zo 10 2 5 3 exL [0,2,3]=0/\(Z0Q 10 2 5 3 exL [0,2,3]).length=3:=⟨by kernel_rfl,by kernel_rfl,by kernel_rfl⟩
theorem v_fill:Z66 10 2 5 3 exL=[[0,1,2],[3,4,5]]:=by kernel_rfl
theorem v_left:Z6T 10 2 5 3 exL=[6]:=by rw[Z6T,v_fill];kernel_rfl
theorem v_wot:Z1Y 10 2 5 3 exL 3=1/\Zo 10 2 5 3 exL [3]=0:=⟨by kernel_rfl,by kernel_rfl⟩
theorem v_card:ZC 2 4 1 2 exS=0:=by kernel_rfl
theorem v_card4:ZC 2 4 1 2 exS4=0:=by kernel_rfl
theorem v_wide:Zau 2 4 1 2 exS 2=(93,102)/\Z1e 2 4 1 2 exS 2=0:=⟨by kernel_rfl,by kernel_rfl⟩
theorem v_against:Z1r 2 4 1 2 (exS.map Ze)=0:=by
 have h:=Z6X (Zav v_card) (k:=7) (by decide);rw[Z1r];rw[UI];rw[show((2:Int) ^ exS.length - 1)=((7:Nat):Int) from rfl,h,YZ (by kernel_rfl)]
theorem ZdB(rs:List Int)(h:firstV (rs++[0,0])=0):firstV (Zy 2 4 1 2 exS rs)=0:=by
 have e:Zy 2 4 1 2 exS rs=0::(rs++[0,0]):=by rw[Zy,v_card,v_against];rfl
 rw[e,firstV,YZ rfl];exact h
theorem ZaJ(a:Int)(h:Zv a=0):ZA 2 4 1 2 exS a=0:=ZdB _ (by rw[h];rfl)
theorem v_mk1:Zw 2 4 1 2 exS 30=(93,100):=by rw[Zw,YZ (ZaJ 30 rfl)];kernel_rfl
theorem v_mk2:Zw 2 4 1 2 exS 25=(73,80):=by rw[Zw,YZ (ZaJ 25 rfl)];kernel_rfl
theorem v_hF(k:Int)(h:Z87 76 k=0):Z8F 2 4 1 2 exS 25 76 k=0:=ZdB _ (by rw[h];rfl)
theorem v_h1:Z6c 2 4 1 2 exS 25 76 4=1:=by rw[Z6c,YZ (v_hF 4 rfl)];kernel_rfl
theorem v_h2:Z6c 2 4 1 2 exS 25 76 3=0:=by rw[Z6c,YZ (v_hF 3 rfl)];kernel_rfl
theorem v_best:Z8H 2 4 1 2 exS 25=(76,4):=by rw[Z8H,YZ (ZaJ 25 rfl)];kernel_rfl
theorem v_widF:Z1O 2 4 1 2 exS 10 30=0:=ZdB _ rfl
theorem v_wid:ZaT 2 4 1 2 exS 10 30=(14,38,48):=by rw[ZaT,YZ v_widF];kernel_rfl
theorem v_clash:Z7L 2 4 1 2 exS4=[1,3]:=by rw[Zc5 (Zav v_card4)];kernel_rfl
theorem v_trust:Z7M 2 4 1 2 exS4=[0,1,2]:=by rw[Zc6 (Zav v_card4)];kernel_rfl
theorem Z59(l:List Int)(k:Nat)(s:Int)(hl:l.length=k)(hk:k<=100)(h:Z1M 10 2 5 3 exL l=s/\Zo 10 2 5 3 exL l=0)(B:Nat)(ad:Option Addr)(w:World)(hM:Meas w)(hS:RawA w (some ⟨B,0,none⟩) exL)(hI:RawI w ad l):
 Calls prog 21 #[stkV B,.slice ad k k] w λe w'=>e= .returned (.tuple #[s,.int .i64 0])/\Ext w w':=by
 have h2:=Z5Y 10 2 5 3 (some ⟨B,0,none⟩) 7 7 exL ad k k l w rfl (by decide) hl (XB _) hk hM hS hI;rw[h.1,h.2] at h2;exact h2
theorem Zc9(B:Nat)(ad:Option Addr)(w:World)(hM:Meas w)(hS:RawA w (some ⟨B,0,none⟩) exL)(hI:RawI w ad [0,2,3]):
 Calls prog 22 #[stkV B,.slice ad 3 3] w λe w'=>∃v,e= .returned (.tuple #[v,.int .i64 0])/\OwnAp w.heap.size w' v (Z0Q 10 2 5 3 exL [0,2,3])/\Ext w w':=by
 have h2:=Z5Z 10 2 5 3 (some ⟨B,0,none⟩) 7 7 exL ad 3 3 [0,2,3] w rfl (by decide) rfl (by decide) (by decide) hM hS hI;rw[v_ap.2.1] at h2;exact h2
theorem ZdC(B:Nat)(w:World)(hM:Meas w)(hS:RawA w (some ⟨B,0,none⟩) exL):
 Calls prog 23 #[stkV B] w λe w'=>∃v1 v2,e= .returned (.tuple #[v1,v2,.int .i64 0])/\Shr w.heap.size w' v1 [[0,1,2],[3,4,5]]/\OwnI w.heap.size w' v2 [6]/\Ext w w':=by
 have h2:=ZbY 10 2 5 3 (some ⟨B,0,none⟩) 7 7 exL w rfl (by decide) hM hS;rw[v_open0,v_fill,v_left] at h2;exact h2
theorem Z8I(B:Nat)(w:World)(hM:Meas w)(hS:RawA w (some ⟨B,0,none⟩) exL):
 Calls prog 24 #[stkV B,.int .i64 3] w λe w'=>e= .returned (.tuple #[.int .i64 1,.int .i64 0])/\Ext w w':=by
 have h2:=Z6S 10 2 5 3 (some ⟨B,0,none⟩) 7 7 exL 3 w rfl (by decide) hM hS;rw[v_wot.1,v_wot.2] at h2;exact h2
theorem ZdD(D:Nat)(w:World)(hS:RawS w (some ⟨D,0,none⟩) exS):
 Calls prog 25 #[ZdA D 3 3,.int .i64 2] w λe w'=>e= .returned (.tuple #[.agg #[.int .i64 93,.int .i64 102],.int .i64 0])/\Ext w w':=by
 have h2:=Z69 2 4 1 2 (some ⟨D,0,none⟩) 3 3 exS 2 w rfl (by decide) hS;rw[v_wide.1,v_wide.2] at h2;exact h2
theorem ZaK(a x y:Int)(h:Zv a=0)(hx:Zw 2 4 1 2 exS a=(x,y))(D:Nat)(w:World)(hS:RawS w (some ⟨D,0,none⟩) exS)(hm:Most w):
 Calls prog 26 #[ZdA D 3 3,a] w λe w'=>e= .returned (.tuple #[.agg #[x,y],.int .i64 0])/\Ext w w':=by
 have h2:=Z86 2 4 1 2 (some ⟨D,0,none⟩) 3 3 w a exS rfl hS hm;rw[hx,ZaJ a h] at h2;exact h2
theorem ZaL(k s:Int)(h:Z87 76 k=0)(hx:Z6c 2 4 1 2 exS 25 76 k=s)(D:Nat)(w:World)(hS:RawS w (some ⟨D,0,none⟩) exS)(hm:Most w):
 Calls prog 27 #[ZdA D 3 3,.int .i64 25,.int .i64 76,k] w λe w'=>e= .returned (.tuple #[s,.int .i64 0])/\Ext w w':=by
 have h2:=Zc7 2 4 1 2 (some ⟨D,0,none⟩) 3 3 w 25 76 k exS rfl hS hm;rw[hx,v_hF k h] at h2;exact h2
theorem ZdE(D:Nat)(w:World)(hS:RawS w (some ⟨D,0,none⟩) exS)(hm:Most w):
 Calls prog 28 #[ZdA D 3 3,.int .i64 25] w λe w'=>e= .returned (.tuple #[.int .i64 76,.int .i64 4,.int .i64 0])/\Ext w w':=by
 have h2:=Zc8 2 4 1 2 (some ⟨D,0,none⟩) 3 3 w 25 exS rfl hS hm;rw[v_best,ZaJ 25 rfl] at h2;exact h2
theorem ZaM(D:Nat)(w:World)(hS:RawS w (some ⟨D,0,none⟩) exS)(hm:Most w):
 Calls prog 29 #[ZdA D 3 3,.int .i64 10,.int .i64 30] w λe w'=>e= .returned (.tuple #[.int .i64 14,.agg #[.int .i64 38,.int .i64 48],.int .i64 0])/\Ext w w':=by
 have h2:=Z8G 2 4 1 2 (some ⟨D,0,none⟩) 3 3 w 10 30 exS rfl hS hm;rw[v_wid,v_widF] at h2;exact h2
theorem Zca(D c:Nat)(w:World)(hS:RawS w (some ⟨D,0,none⟩) exS4)(hm:Most w)(hd:Deb w):
 Calls prog 31 #[ZdA D 4 c] w λe w'=>∃v,e= .returned (.tuple #[v,.int .i64 0])/\OwnI w.heap.size w' v [1,3]/\Ext w w':=by
 have h2:=Zas 2 4 1 2 (some ⟨D,0,none⟩) 4 c exS4 w rfl hS hm hd;rw[v_clash,v_card4,YZ rfl] at h2;exact h2
theorem Zcb(D c:Nat)(w:World)(hS:RawS w (some ⟨D,0,none⟩) exS4)(hm:Most w)(hd:Deb w):
 Calls prog 32 #[ZdA D 4 c] w λe w'=>∃v,e= .returned (.tuple #[v,.int .i64 0])/\OwnI w.heap.size w' v [0,1,2]/\Ext w w':=by
 have h2:=Zat 2 4 1 2 (some ⟨D,0,none⟩) 4 c exS4 w rfl hS hm hd;rw[v_trust,v_card4,YZ rfl] at h2;exact h2
theorem Z0V(h:w.heap[b]? =some (.cells C 3))(hC:C.toList=l.map (Value.int .i64)):RawI w (some ⟨b,0,none⟩) l:=by
 intro i y hy;refine⟨b,0,rfl,Z5 h,?_⟩;rw[Z0 h,UA,<-Array.getElem?_toList,hC,List.getElem?_map,hy];rfl
theorem ZdF(h:w.heap[B]? =some (.cells exC 51)):RawA w (some ⟨B,0,none⟩) exL:=by
 intro i x hx;have hi:i<7:=(YI.1 hx).1;refine⟨B,0,rfl,Z5 h,?_,?_⟩
 ·match i,hi with
  |0,_|1,_|2,_|3,_|4,_|5,_|6,_=>
   obtain rfl:=YT hx;exact⟨by rw[Z0 h];rfl,by rw[Z0 h];rfl,by rw[Z0 h];rfl,by rw[Z0 h];rfl,by rw[Z0 h];rfl,by rw[Z0 h];rfl,by rw[Z0 h];rfl⟩
 ·match i,hi with
  |0,_|1,_|2,_|3,_|4,_|5,_|6,_=>
   obtain rfl:=YT hx;decide
theorem Z6Y{L:List Rs}(h:w.heap[B]? =some (.cells C 75))(hC:C.toList.take (L.length*5)=L.flatMap rsC):RawS w (some ⟨B,0,none⟩) L:=by
 have key:∀(L:List Rs)(i j:Nat)(x:Rs),L[i]? =some x->j<5->(L.flatMap rsC)[i*5+j]? =(rsC x)[j]? :=by
  intro L
  induction L with
  |nil=>intro i j x h;simp at h
  |cons y L ih=>
   intro i j x hx hj;rw[UE];have hl:(rsC y).length=5:=rfl;cases i with
   |zero=>
    simp at hx;subst hx;rw[List.getElem?_append_left (by omega)];simp
   |succ i=>
    rw[List.getElem?_append_right (by omega),hl,show(i+1)*5+j - 5=i*5+j by omega];exact ih i j x (by simpa using hx) hj
 intro i x hx;have hi:i<L.length:=(YI.1 hx).1;have hc:∀j,j<5->w.cell? ⟨B,0+i*5+j,none⟩=(rsC x)[j]? :=by
  intro j hj;rw[Z0 h,UA,<-Array.getElem?_toList,<-key L i j x hx hj,<-hC,List.getElem?_take,YZ (by omega)]
 exact⟨B,0,rfl,Z5 h,hc 0 (by omega),hc 1 (by omega),hc 2 (by omega),hc 3 (by omega),hc 4 (by omega)⟩
end Go.Proofs.Tryq
