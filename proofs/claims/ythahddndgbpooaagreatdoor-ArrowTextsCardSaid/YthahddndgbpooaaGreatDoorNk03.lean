import Derived.Test.YthahddndgbpooaaGreatDoorNk02
import Derived.Conc.CrowdRun
set_option linter.all false
open Go Go.Conc
open Go renaming Frame->I,World->J,Program->Z,Goroutine->NR
open Bool renaming true->U,false->ND
open Option renaming some->NA,none->NB
variable {es:Array Event}{ops:Array Oper}{dr mn mn':Bool}{b fr' fr1:I}{E:I->List I->J->Prop}{s:GStep}{ds y:List Deferred}{bot' cs' cs1 d:List I}{k r:List Item}{Λ:Loop->Prop}{m m':Machine}{i j n:Nat}{ρ:Nat->Nat}{Fz L:Nat->Prop}{p:Z}{u:Trace}{V' w1:J}
namespace Go.Nk
section
variable [Ban]
section
variable {P:Z}{fs:Array Func}{Gs:Nat->Bool}{V w:J}
def jV(V w:J)(d c:Nat):Foot ρ Fz V w {V with drawn:=V.drawn+d} {w with drawn:=w.drawn+c} #[]:=
 ⟨λ_ h=>h,λ_ h=> .inl h,XA _,XA _,λ_ _ _=>rfl,λe a=>by simp at a,rfl,rfl,rfl,Nat.le_add_right _ _,λ_ _ _ h _=>⟨h,rfl⟩⟩
def mH{G:Nat}(a:Sim0 ρ G Fz V w)(d c:Nat):Sim0 ρ G Fz {V with drawn:=V.drawn+d} {w with drawn:=w.drawn+c}:=
 {obj:=a.obj,inj:=a.inj,fz:=a.fz,low:=a.low,gV:=a.gV,gw:=a.gw,next:=a.next}
def cH{G:Nat}(C:Sim0 ρ G Fz V w)(W:LoopsOk Λ V){r:Nat}{o B:Obj}(hr:Live V r)(K:ORel ρ (Live V) U o B)(G2:∀l,o= .loop l->Λ l)(Hj:∀c e f,o≠.cells c e f)(F p:Z):
 (∃h a,(setObj r o).run F V= .halt h a/\Bad h)\/∃a w1 new,(setObj r o).run F V= .ok () a/\(∀es,(setObj (ρ r) B).runT p w es=(.ok () w1,es++new))/\Sim0 ρ G Fz a w1/\LoopsOk Λ a/\Foot ρ Fz V w a w1 new:=by
 show(∃h a,(Sem.setObj r o (.pure ())).run F V=_/\_)\/∃a w1 new,(Sem.setObj r o (.pure ())).run F V=_/\(∀es,(Sem.setObj (ρ r) B (.pure ())).runT p w es=_)/\_;simp only[Sem.run,Sem.runT];obtain⟨o0,g,A⟩:=hr;by_cases M:∃c e f,o0= .cells c e f
 .obtain⟨c,e,f,rfl⟩:=M;rw[g];exact .inl ⟨_,_,rfl,trivial⟩
 .have Cz:=HY C.toEmb g A (λc e f h=>M ⟨c,e,f,h⟩);obtain⟨_,X,_,O⟩:=C.get g A;have T:=O Cz;rw[g,X];have Yt:=K.isChan
  have hf:=J0 (w:=w) (o1:=o) (o2:=B) (new:= #[⟨.obj (ρ r),U,ND⟩]) (Fz:=Fz) (ρ:=ρ) g A Cz K.live (λx z=>by
   simp at z;subst z;exact .inr (.inl ⟨r,U,rfl,⟨_,g,A⟩,Cz⟩)) (λx z e=>C.inj _ _ ⟨_,g,A⟩ z e) (λ_ x e z _=>by
   have Y:=(YF.1 g).1;simp only[World.cell?,e,YM Y]at z;split at z
   .rename_i h9;cases h9;exact absurd rfl (Hj _ _ _)
   .cases z)
  have H:∃a w1 new,(Result.ok () {V with heap:=V.heap.setIfInBounds r o}:Result Unit)= .ok () a/\(∀es:Array Event,((Result.ok () {w with heap:=w.heap.setIfInBounds (ρ r) B}:Result Unit),es.push ⟨.obj (ρ r),U,B.isChan⟩)=(.ok () w1,es++new))/\Sim0 ρ G Fz a w1/\LoopsOk Λ a/\Foot ρ Fz V w a w1 new:=
   ⟨_,_,_,rfl,λes=>by rw[Yt];simp,C.turn g A Cz K,W.set G2 _,hf⟩
  right
  cases T with|cells _ _=>exact absurd ⟨_,_,_,rfl⟩ M|_=>exact H
def gg(t:TypeId){m m' k A v F:Value}(ht:P6 P t=U)(hm:VRel ρ (Live V) m m')(hk:VRel ρ (Live V) k A)(hv:VRel ρ (Live V) v F)(hS:Sim ρ P.globals.size Fz V w)(hΛ:LoopsOk (ZE P fs Gs) V):
 Lax P fs Gs ρ Fz V w (NRel P fs (ZE P fs Gs) ρ) (do Instr.mapUpdate t m k v;Pure.pure Next.skip) (do Instr.mapUpdate t m' A F;Pure.pure Next.skip):=by
 have run:=((lh (P:=P) (fs:=fs) (Λ:=ZE P fs Gs) t ht hm hk) hS.good (λ_=>False)).run V w #[] hS hΛ (λ_ h=>h) (λ_ h=>h.elim);have C2:∀new:Array Event,(#[]:Array Event)++new=new:=OD
 refine de ?_;have e1:(do Instr.mapUpdate t m k v;Pure.pure Next.skip:Sem Next).run (Z6 P fs) V=((Tz t m k).run (Z6 P fs) V).andThen λa z=>((OO k v a).run (Z6 P fs) z).andThen λ_ M=> .ok Next.skip M:=by
  rw[dh];simp only[UH,Sem.run_pure];cases (Tz t m k).run (Z6 P fs) V<;>rfl
 have e2:(do Instr.mapUpdate t m' A F;Pure.pure Next.skip:Sem Next).runT P w #[]=match (Tz t m' A).runT P w #[]with
  |(.ok a w1,es)=>(match (OO A F a).runT P w1 es with|(.ok _ w2,g)=>(.ok Next.skip w2,g)|(.halt h w2,g)=>(.halt h w2,g))
  |(.halt h w1,es)=>(.halt h w1,es):=by
  rw[dh,bind_assoc];show((Tz t m' A).bind λa=>(OO A F a).bind λ_=> .pure Next.skip).runT P w #[]=_;rw[Sem.runT_bind'];rcases(Tz t m' A).runT P w #[]with⟨x,es⟩;cases x with
  |halt h w1=>rfl
  |ok a w1=>
   simp only[Sem.runT_bind'];rcases(OO A F a).runT P w1 es with⟨x,g⟩;cases x<;>rfl
 rw[e1,e2];rcases run with⟨h,z,C,W⟩|⟨z,w1,new,Bi,Y,hF,⟨a,b,_,C,O,Cn,E2⟩|⟨v,F,C,O,hv⟩⟩
 .rw[C];exact .inl ⟨h,z,rfl,W⟩
 .rw[C2]at O;rw[C,O];obtain⟨r,es,_,x⟩:=a;obtain⟨_,B,c,_⟩:=b;obtain⟨h1,h2,h3,h4,h5⟩:=E2;simp only at h1 h2 h3 h4 h5;subst h1 h4;have Gb:=λb W=>hF.live b W
  have H9:=hk.up Gb;have G5:=hv.up Gb;have h3:=h3.up Cn;cases h5 with
  |none=>
   simp only[RZ,OO];have ho:ORel ρ (Live z) U (.map (es.push {key:=k,val:=v,born:=c}) (c+1)) (.map (B.push {key:=A,val:=F,born:=c}) (c+1)):=by
    refine .map ?_;simp only[QY];exact h3.push ⟨H9,G5,rfl⟩
   rcases cH Bi.toSim0 Y (Cn _ h2) ho (λ_ h=>by cases h) (λ_ _ _ h=>by cases h) (Z6 P fs) P with⟨h,M,C,W⟩|⟨M,w2,a0,C,O,Gc,X,A3⟩
   .rw[C];exact .inl ⟨h,M,rfl,W⟩
   .rw[C,O];exact .inr ⟨M,w2,_,Gc,X,hF.trans hS.next A3,.inl ⟨_,_,Live M,rfl,rfl,λ_ h=>h,.skip⟩⟩
  | @some i y _ _=>
    simp only[RZ,OO];have Bg:VRel ρ (Live z) (((es[i]?).map (·.key)).getD k) (((B[i]?).map (·.key)).getD A):=by
     rcases h3.get i with⟨e1,e2⟩|⟨e,_,e1,e2,he⟩
     .rw[e1,e2];exact H9
     .rw[e1,e2];exact he.key
    generalize ((es[i]?).map (·.key)).getD k=a1 at Bg;generalize ((B[i]?).map (·.key)).getD A=H at Bg;obtain⟨f,d,q1,_,q3⟩:=bJ (Z6 P fs) a1 k z;obtain⟨K,d',_,p2,T⟩:=bJ P H A w1;have Ep:VRel ρ (Live z) f K:=by
     rcases q3 with⟨q3,rfl⟩|⟨q3,rfl⟩
     .rcases T with⟨_,rfl⟩|⟨T,_⟩
      .exact H9
      .rw[gU Bi.good 10000 Bg H9 q3]at T;cases T
     .have hT:z.tape z.drawn=w1.tape w1.drawn:=Bi.tape 0;rcases T with⟨T,rfl⟩|⟨T,rfl⟩
      .split
       .exact H9
       .rw[<-sameBits_eq 10000 T];exact Bg
      .rw[hT];split
       .exact H9
       .exact Bg
    have ho:ORel ρ (Live z) U (.map (es.modify i λe=>{e with key:=f,val:=v}) c) (.map (B.modify i λe=>{e with key:=K,val:=F}) c):= .map (h3.put i Ep G5);simp only[UH,q1,RZ];have e3:∀(o:Obj)(g:Array Event),(do let f<-Instr.keyThatStays H A;setObj (ρ r) (.map (B.modify i λe=>{e with key:=f,val:=F}) c):Sem Unit).runT P w1 g=(setObj (ρ r) (.map (B.modify i λe=>{e with key:=K,val:=F}) c)).runT P {w1 with drawn:=w1.drawn+d'} g:=by
     intro o g;show((Instr.keyThatStays H A).bind _).runT P w1 g=_;rw[Sem.runT_bind',p2 g]
    rw[e3 (.map es c) new];have Yv:Sim0 ρ P.globals.size Fz {z with drawn:=z.drawn+d} {w1 with drawn:=w1.drawn+d'}:=mH Bi.toSim0 d d';rcases cH Yv Y (Cn _ h2) ho (λ_ h=>by cases h) (λ_ _ _ h=>by cases h) (Z6 P fs) P with⟨h,M,C,W⟩|⟨M,w2,a0,C,O,Gc,X,A3⟩
    .rw[C];exact .inl ⟨h,M,rfl,W⟩
    .rw[C,O];have Rl:=(hF.trans hS.next (jV z w1 d d')).trans hS.next A3;rw[Array.append_empty]at Rl;exact .inr ⟨M,w2,_,Gc,X,Rl,.inl ⟨_,_,Live M,rfl,rfl,λ_ h=>h,.skip⟩⟩
 .rw[C2]at O;rw[C,O];exact .inr ⟨z,w1,new,Bi.toSim0,Y,hF,.inr ⟨v,F,rfl,rfl,hv⟩⟩
def cY(F:Y5 P fs){e z:Operand->Value}(g:∀o,Zf Gs o=U->VRel ρ (Live V) (e o) (z o))(H:∀f,e (.func f)= .func (.func f) #[] #[])(C:∀f,z (.func f)= .func (.func f) #[] #[])(o:Oper)(a:ZJ P Gs o.op=U)
 (B:Sim ρ P.globals.size Fz V w)(A:LoopsOk (ZE P fs Gs) V):Lax P fs Gs ρ Fz V w (NRel P fs (ZE P fs Gs) ρ) (execOp e o) (execOp z o):=by
 by_cases c:∃t m k x,o.op= .mapUpdate t m k x
 .obtain⟨t,m,k,x,c⟩:=c;obtain⟨_,op,_,_,_,guard⟩:=o;simp only at c;subst c;simp only[ZJ,YG]at a;exact gg t a.1.1.1 (g _ a.1.1.2) (g _ a.1.2) (g _ a.2) B A
 .exact lax (mS (L:=Live V) F g H C o a λt m k x h=>c ⟨t,m,k,x,h⟩) B A
end
section
variable {P:Z}{fs:Array Func}{Gs:Nat->Bool}{V w:J}{bot:List I}
def dw{fr:I}{cs:List I}{w:J}(c:fr.todo=[]):stepG.exec p mn U fr cs NB w=WQ p mn fr cs NB w:=by
 obtain⟨_,_,_,_,_,_,a⟩:=fr;cases c;cases a<;>rfl
def di{fr:I}{cs:List I}{w:J}(c:fr.todo= .code .ret::k):stepG.exec p mn U fr cs NB w=WQ p mn fr cs (NA .ret) w:=by
 obtain⟨_,_,_,_,_,_,a⟩:=fr;cases c;cases a<;>rfl
def CU{fr:I}{cs:List I}{w:J}{id:Nat}(c:fr.todo= .code (.exit id)::k)(h:exitTo id k=NB):stepG.exec p mn U fr cs NB w=WQ p mn fr cs (NA (.exit id)) w:=by
 obtain⟨_,_,_,_,_,_,a⟩:=fr;cases c;simp only[stepG.exec,h,Option.elim_none];cases a<;>rfl
def dk{fr:I}{cs:List I}{w:J}{id:Nat}(c:fr.todo= .code (.exit id)::k)(h:exitTo id k=NA r):stepG.exec p mn U fr cs NB w= .go (G {fr with todo:=r} cs) w #[]:=by
 obtain⟨_,_,a,_,_,_,_⟩:=fr;cases c;simp only[stepG.exec,h,Option.elim_some];rfl
def iE{G:Nat}(a:Sim ρ G Fz V w):Sim ρ G Fz {V with drawn:=V.drawn+1} {w with drawn:=w.drawn+1}:=
 {obj:=a.obj,inj:=a.inj,fz:=a.fz,low:=a.low,gV:=a.gV,gw:=a.gw,tape:=λi=>by have:=a.tape (1+i);simp only[<-TA]at this;exact this,next:=a.next}
def dT{fr:I}{cs:List I}{w:J}{id:Nat}(c:fr.todo= .code (.region id ops dr)::k):
 stepG.exec p mn U fr cs NB w=if dr then .go (G {fr with todo:= .inRegion ops (Region.schedule (p.follows .mixedOrders) ops (w.tape w.drawn (.order fr.fn id)))::k} cs) {w with drawn:=w.drawn+1} #[]
  else .go (G {fr with todo:= .inRegion ops (List.range ops.size)::k} cs) w #[]:=by
 obtain⟨_,_,a,_,_,_,_⟩:=fr;cases c;cases dr<;>rfl
def iq(I6:Y5 P fs)(hG:∀g,Gs g=U->Live V g/\ρ g=g){mn mn':Bool}{fr fr':I}{cs cs':List I}(W:Sim ρ P.globals.size Fz V w)(hΛ:LoopsOk (ZE P fs Gs) V)
 (B:FrR P fs Gs ρ (Live V) fr fr')(hc:CsR P fs Gs ρ (Live V) bot bot' cs cs')(hb:cs=bot->fr.roundOf=NB)(hm:fr.mode= .run):
 Bd P fs Gs ρ Fz V w fr.fn cs cs' (stepG (Z6 P fs) mn (G fr cs) V) (λt=>stepG P mn' (G fr' cs') (retape t w))\/Lk P fs Gs ρ Fz bot bot' V w (stepG (Z6 P fs) mn (G fr cs) V) (λt=>stepG P mn' (G fr' cs') (retape t w)):=by
 have Dh:=λj hj=>fG (mn:=mn) (mn':=mn') W hΛ B hc hb j hj
 have C3:=B.eval hG;have De:=fun(X Y:Sem Next)(hq:Lax P fs Gs ρ Fz V w (NRel P fs (ZE P fs Gs) ρ) X Y)=>AE (X:=X) (Y:=Y) hq B hc hb
 have I7:=B.todo;have a8:fr'.mode= .run:=B.mode.1.trans hm
 have K:∀{k k':List Item},ItsR P Gs ρ (Live V) k k'->Lk P fs Gs ρ Fz bot bot' V w (.go (G {fr with todo:=k} cs) V #[]) (λt=> .go (G {fr' with todo:=k'} cs') (retape t w) #[]):=
  λF=>E8 W hΛ (B.todoTo F) hc (λe=>by simpa using hb e)
 have e1:stepG (Z6 P fs) mn (G fr cs) V=stepG.exec (Z6 P fs) mn U fr cs NB V:=by simp only[G,stepG,hm]
 have e2:(λt=>stepG P mn' (G fr' cs') (retape t w))=λt=>stepG.exec P mn' U fr' cs' NB (retape t w):=by simp only[G,stepG,a8]
 rw[e1,e2];generalize A:fr.todo=z at I7;generalize ht':fr'.todo=a9 at I7;cases I7 with
 |nil=>
  have:=Dh NB (λc h=>by cases h);rw[dw A];simp only[dw ht'];exact this
 |cons hi F=>
  rename_i it b2 k k';cases hi with
  |inBlock id=>simp only[stepG.exec,A,ht'];exact .inr (K F)
  |inLoop h=>simp only[stepG.exec,A,ht'];exact .inr (K (.cons (.code h) (.cons (.inLoop h) F)))
  |inScope h=>simp only[stepG.exec,A,ht'];exact .inr (K F)
  |inRangeFunc hl=>simp only[stepG.exec,A,ht'];exact .inl (IS (λv h=>by cases h))
  |beginRound=>
   simp only[stepG.exec,A,ht'];refine De _ _ (lax ?_ W hΛ);have Mj:=B.round;cases h1:fr.roundOf with
   |none=>exact Q.bindStuck
   |some l=>
    rw[h1]at Mj;obtain⟨hl,h2⟩:=AH Mj;rw[h2];exact(qI hl).bind λ_ _ _ _ _=>Q.pure .skip
  |endRangeFunc hl=>
   rename_i l;simp only[stepG.exec,A,ht'];rcases OM (gR (fs:=fs) (P:=P) (Gs:=Gs) (ρ:=ρ) hl) W hΛ with⟨h,V1,es,T,B4⟩|⟨V1,w1,new,es,Bi,a0,H,⟨v,v',L1,T,M,Cn,hv⟩|⟨v,v',T,M,_⟩⟩
   .left
    simp only[T];cases h<;>first|exact Vw|exact B4.elim
   .right
    obtain⟨rfl,T9⟩:=hv;simp only[T,GStep.after];refine⟨_,_,_,_,_,_,_,_,rfl,⟨M.1,λt A=>by simp only[M.2 t A];rfl⟩,Pq ((B.up H.live).todoTo ?_),hc.up H.live,λe=>by simpa using hb e,Bi.toSim0,a0,H.foot0.sub CM⟩;have H9:=F.up H.live;cases v' with|none=>exact H9|some c=>exact .cons (.code (T9 c rfl)) H9
   .left;right
    simp only[T,GStep.after]
    refine⟨fr.raise [{v,recovered:=ND}],V1,_,fr'.raise [{v:=v',recovered:=ND}],w1,_,rfl,by
     have M:Sem.runT P (Instr.endLoop (ρ l)) (retape w.tape w) #[]=(Result.halt (Halt.panic v') w1,new):=M;simp only[M];rfl,MQ _ _,IL _ _,?_,Bi.toSim0,a0,H.live⟩
    rw[MS,MS];exact B.defers.up H.live
  |inRegion ho=>
   rename_i ops td;cases td with
   |nil=>simp only[stepG.exec,A,ht'];exact .inr (K F)
   |cons i rest=>
    simp only[stepG.exec,A,ht'];rw[kW B.tmps ops];split
    .simp only[stepG.oper,Frame.oper?,A,ht'];cases Nb:ops[i]? with
     |none=>exact .inl Vw
     |some o=>
      have C9:ZJ P Gs o.op=U:=YL.1 ho o (RD.2 (Array.mem_of_getElem? Nb));have Mj:=B.round;have a6:∀c,o.op≠.defer c:=λc e=>by rw[e]at C9;simp[ZJ]at C9
      have b1:=De _ _ (cY I6 C3 (λ_=>rfl) (λ_=>rfl) o C9 W hΛ);dsimp only;split
      .exact absurd ‹_› (a6 _)
      .split
       .exact absurd ‹_› (a6 _)
       .exact b1
    .right
     have h1:=Ug fr undef;exact E8 W hΛ (B.finish .undef) hc (λe=>(Ug _ _).trans (hb e))
  | @code c C=>
    cases c with
    |skip=>simp only[stepG.exec,A,ht'];exact .inr (K F)
    |label l=>simp only[stepG.exec,A,ht'];exact .inr (K F)
    |ret=>
     have:=Dh (NA .ret) (λc h=>by cases h;rfl);rw[di A];simp only[di ht'];exact this
    |seq a b=>
     simp only[Zn,YG]at C;simp only[stepG.exec,A,ht'];exact .inr (K (.cons (.code C.1) (.cons (.code C.2) F)))
    |cond c a b=>
     simp only[Zn,YG]at C;simp only[stepG.exec,A,ht'];have hv:=C3 c C.1.1;generalize fr.eval c=v at hv;generalize fr'.eval c=v' at hv;cases hv with
     |bool t=>cases t<;>exact .inr (K (.cons (.code (by simp[C])) F))
     |_=>exact .inl Vw
    |block id c=>simp only[stepG.exec,A,ht'];exact .inr (K (.cons (.code C) (.cons (.inBlock id) F)))
    |loop c=>simp only[stepG.exec,A,ht'];exact .inr (K (.cons (.code C) (.cons (.inLoop C) F)))
    |scope c=>simp only[stepG.exec,A,ht'];exact .inr (K (.cons (.code C) (.cons (.inScope C) F)))
    |exit id=>
     rcases mR F id with⟨h1,h2⟩|⟨r,r',h1,h2,hr⟩
     .have:=Dh (NA (.exit id)) (λc h=>by cases h;rfl);rw[CU A h1];simp only[CU ht' h2];exact this
     .rw[dk A h1];simp only[dk ht' h2];exact .inr (K hr)
    |region id ops dr=>
     rw[dT A];simp only[dT ht'];cases dr with
     |false=>exact .inr (K (.cons (.inRegion C) F))
     |true=>
      right
      simp only[XY];have et:w.tape w.drawn (.order fr'.fn id)=V.tape V.drawn (.order fr.fn id):=(by have:=W.tape 0;simp only[RS]at this;rw[B.fn,this]);have b0:Foot0 ρ Fz V w {V with drawn:=V.drawn+1} {w with drawn:=w.drawn+1} #[]:=⟨λ_ h=>h,λ_ h=> .inl h,XA _,XA _,λ_ _ _=>rfl,λe he=>by simp at he,rfl,rfl,rfl,QW _,λ_ _ _ h _=>⟨h,rfl⟩⟩;refine⟨_,_,_,_,{fr' with todo:= .inRegion ops (Region.schedule (P.follows .mixedOrders) ops (V.tape V.drawn (.order fr.fn id)))::k'},cs',{w with drawn:=w.drawn+1},#[],rfl,⟨⟨QW _,rfl⟩,λt A=> ?_⟩,Pq (B.todoTo (.cons (.inRegion C) F)),hc,λe=>by simpa using hb e,(iE W).toSim0,hΛ,b0⟩;have e:t w.drawn=w.tape w.drawn:=A _ (XA _) (Nat.lt_succ_self _);show GStep.go (G {fr' with todo:= .inRegion ops (Region.schedule (P.follows .mixedOrders) ops (t w.drawn (.order fr'.fn id)))::k'} cs') {retape t w with drawn:=w.drawn+1} #[]=_;rw[e,et];rfl
    |goto l=>simp[Zn]at C
    |refuse s=>simp[Zn]at C
    |rangeFunc f ps as bd=>
     simp only[Zn,YG]at C;simp only[stepG.exec,A,ht']
     have hq:Q P fs (ZE P fs Gs) P.globals.size ρ (Live V) (λL (x y:Nat×List Deferred)=>y.1=ρ x.1/\L x.1/\DsRel ρ L x.2 y.2)
      (Instr.enterLoop fr.fn fr.tmps ps as bd fr.roundOf) (Instr.enterLoop fr'.fn fr'.tmps ps as bd fr'.roundOf):=by
      rw[B.fn];exact oS B.tmps B.round B.tm C.1.2 C.2
     rcases OM hq W hΛ with⟨h,V1,es,T,B4⟩|⟨V1,w1,new,es,Bi,a0,H,⟨a,b,L1,T,M,Cn,E2⟩|⟨v,v',T,_⟩⟩
     .left;simp only[T,GStep.after];exact Vw
     .obtain⟨l,mk⟩:=a;obtain⟨l',a3⟩:=b;obtain⟨h1,h2,h3⟩:=E2;simp only at h1 h2 h3;subst h1;simp only[T];have E3:=B.up H.live
      have Nc:FrR P fs Gs ρ (Live V1) {fr with todo:= .inRangeFunc l::k,defers:=mk++fr.defers} {fr' with todo:= .inRangeFunc (ρ l)::k',defers:=a3++fr'.defers}:=
       ⟨E3.fn,E3.tm,E3.tmps,.cons (.inRangeFunc (Cn _ h2)) (F.up H.live),(h3.up Cn).append E3.defers,E3.mode,E3.kind,E3.round⟩
      have Yw:=Nc.eval (λg hg=>⟨H.live _ (hG g hg).1,(hG g hg).2⟩)
      have D0:Q P fs (ZE P fs Gs) P.globals.size ρ (Live V1) (NRel P fs (ZE P fs Gs) ρ)
       (do let d<-resolve (Frame.eval {fr with todo:= .inRangeFunc l::k,defers:=mk++fr.defers}) {callee:= .value f,args:= #[.const (.func (.yield l) #[] #[])],argTypes:= #[]} 0;invoke d.target d.args)
       (do let d<-resolve (Frame.eval {fr' with todo:= .inRangeFunc (ρ l)::k',defers:=a3++fr'.defers}) {callee:= .value f,args:= #[.const (.func (.yield (ρ l)) #[] #[])],argTypes:= #[]} 0;invoke d.target d.args):=by
       have Yx:=Yw f C.1.1;have ha:AR ρ (Live V1) #[.func (.yield l) #[] #[]] #[.func (.yield (ρ l)) #[] #[]]:=AR.one (.yield (Cn _ h2) rfl (λi hi=>absurd hi OD) rfl (λi hi=>absurd hi OD));have em:∀(e:I)(v:Value),Array.map e.eval #[.const v]= #[v]:=λe v=>by simp[Frame.eval]
       unfold resolve;dsimp only;rw[em,em];generalize Frame.eval {fr with todo:= .inRangeFunc l::k,defers:=mk++fr.defers} f=v at Yx;generalize Frame.eval {fr' with todo:= .inRangeFunc (ρ l)::k',defers:=a3++fr'.defers} f=v' at Yx;cases Yx with|func Jy a1 a2 c1 c2=>exact DD I6 _ (λh=>by rw[Jy]at h;cases h) ((AR.append ⟨a1,a2⟩ ha).append ⟨c1,c2⟩)|yield hl a1 a2 c1 c2=>exact aH _ hl (AR.append ⟨a1,a2⟩ ha)|nilFunc=>exact V4 .nilDeref rfl|meth _=>exact cW I6 _|_=>exact Q.stuck
      rcases AE (lax D0 Bi a0) Nc (hc.up H.live) (λe=>by simpa using hb e)with B4|⟨fr1,cs1,V2,a7,O,a4,w2,a5,q1,q2,q3,q4,q5,q6,q7,q8⟩
      .left
       rcases B4 with⟨o,V2,a5,q1,q2⟩|⟨fr1,V2,a7,O,w2,a5,q1,q2,q3,q4,q5,q6,q7,q8⟩
       .rw[q1];exact IS q2
       .right
        rw[q1];have C0:=M.2 w.tape (λ_ _ _=>rfl);have ew:retape w.tape w1=w1:=(by unfold retape;rw[<-M.1.2]);rw[ew]at C0;dsimp only at q2;rw[Vt]at q2;rw[<-H.tape]at C0;refine⟨fr1,V2,_,O,w2,_,rfl,by rw[<-H.tape];simp only[C0];rw[q2];rfl,q3,q4,q5,q6,q7,λb hb=>q8 b (H.live b hb)⟩
      .right
       rw[q1];exact⟨fr1,cs1,V2,_,O,a4,w2,_,rfl,⟨M.1.trans q2.1,λt A=>by simp only[M.2 t (A.left q2.1),q2.2 t (A.right M.1)];rfl⟩,q3,q4,q5,q6,q7,(H.foot0.sub λe he=>Ql P _ _ e he).trans W.next q8⟩
     .left;simp only[T,GStep.after];exact Vw
end
section
variable {P:Z}{fs:Array Func}{Gs:Nat->Bool}{V w:J}{bot:List I}
def CsR.bot_iff{cs:List I}(h:CsR P fs Gs ρ L bot bot' cs cs')(e:cs=bot):cs'=bot':=by
 cases h with|nil=>rfl|cons _ _ h=>have:=h.length;rw[<-e]at this;simp at this;omega
def lK{fr:I}{cs:List I}(hS:Sim ρ P.globals.size Fz V w)(hΛ:LoopsOk (ZE P fs Gs) V)
 (o:FrR P fs Gs ρ (Live V) fr fr')(hc:CsR P fs Gs ρ (Live V) bot bot' cs cs')(hb:cs=bot->fr.roundOf=NB)(Y:fr.mode= .returning)(Ab:cs=bot->fr.defers≠[]):
 Bd P fs Gs ρ Fz V w fr.fn cs cs' (stepG (Z6 P fs) mn (G fr cs) V) (λt=>stepG P mn' (G fr' cs') (retape t w))\/Lk P fs Gs ρ Fz bot bot' V w (stepG (Z6 P fs) mn (G fr cs) V) (λt=>stepG P mn' (G fr' cs') (retape t w)):=by
 have z:fr'.mode= .returning:=o.mode.1.trans Y;have e1:stepG (Z6 P fs) mn (G fr cs) V=unwind (Z6 P fs) mn fr cs NB V:=by simp only[G,stepG,Y]
 have e2:(λt=>stepG P mn' (G fr' cs') (retape t w))=λt=>unwind P mn' fr' cs' NB (retape t w):=by simp only[G,stepG,z]
 rw[e1,e2];have F:=o.defers;generalize Fq:fr.defers=ds at F;generalize Ta:fr'.defers=A at F;cases F with
 |nil=>
  obtain⟨W,c,h1,h2,_,_⟩:=o.tm;have X:(Z6 P fs).funcs[fr.fn]? =NA W:=h1;have T:P.funcs[fr'.fn]? =NA W:=by rw[o.fn];exact h2
  simp only[unwind,Fq,Ta,Y,z,X,T];rcases OM (fc (fs:=fs) (P:=P) (Gs:=Gs) (ρ:=ρ) W o.tmps) hS hΛ with⟨h,K,es,a,_⟩|⟨K,w1,new,es,O,x,g,⟨v,C,L1,a,B,M,hv⟩|⟨v,C,a,_⟩⟩
  .left
   simp only[a];cases h<;>exact Vw
  .right
   simp only[a];exact AG (mn':=mn') (es2:=seen P fr'.fn new) O.toSim0 x (g.foot0.sub λe he=>Ql P _ _ e he) B.1 (λt H=>by simp only[B.2 t H]) o.kind (hc.up g.live) (λe=>Ab e Fq) (hv.up M)
  .left;simp only[a];exact Vw
 | @cons r ds A hr Tb=>
   simp only[unwind,Fq,Ta];rcases OM (DW (fs:=fs) (P:=P) (Gs:=Gs) (ρ:=ρ) hr) hS hΛ with⟨h,K,es,a,_⟩|⟨K,w1,new,es,O,x,g,⟨v,C,L1,a,B,M,hv⟩|⟨v,C,a,_⟩⟩
   .left;simp only[a];exact Vw
   .right
    simp only[a,GStep.after];have f:=o.up g.live;exact⟨_,_,_,_,{fr' with defers:=C++A},_,_,seen P fr'.fn new++ #[],rfl,⟨B.1,λt H=>by simp only[B.2 t H];rfl⟩,Pq ⟨f.fn,f.tm,f.tmps,f.todo,(hv.up M).append (Tb.up g.live),f.mode,f.kind,f.round⟩,hc.up g.live,λe=>hb e,O.toSim0,x,g.foot0.sub CM⟩
   .left;simp only[a];exact Vw
def EW(A:Y5 P fs)(B:∀g,Gs g=U->Live V g/\ρ g=g){mn mn':Bool}{fr fr':I}{cs cs':List I}(f:Sim ρ P.globals.size Fz V w)(x:LoopsOk (ZE P fs Gs) V)
 (a:FrR P fs Gs ρ (Live V) fr fr')(c:CsR P fs Gs ρ (Live V) bot bot' cs cs')(o:cs=bot->fr.roundOf=NB):
 Bd P fs Gs ρ Fz V w fr.fn cs cs' (stepG (Z6 P fs) mn (G fr cs) V) (λt=>stepG P mn' (G fr' cs') (retape t w))\/Lk P fs Gs ρ Fz bot bot' V w (stepG (Z6 P fs) mn (G fr cs) V) (λt=>stepG P mn' (G fr' cs') (retape t w))\/
  (cs=bot/\cs'=bot'/\fr.mode= .returning/\fr.defers=[]):=by
 rcases a.mode.2 with hm|hm
 .exact(iq A B f x a c o hm).imp_right .inl
 .by_cases Ab:cs=bot->fr.defers≠[]
  .exact(lK f x a c o hm Ab).imp_right .inl
  .right;right
   have:cs=bot/\fr.defers=[]:=by
    by_cases h:cs=bot
    .exact⟨h,VQ λz=>Ab λ_=>z⟩
    .exact absurd (λe=>absurd e h) Ab
   exact⟨this.1,c.bot_iff this.1,hm,this.2⟩
end
def trap:I:={fn:=0,tmps:= #[],todo:=[.code (.refuse "")],defers:=[{target:= .nil,args:= #[]}],mode:= .run,kind:= .normal}
structure Self(P:Z)(fs:Array Func)(Gs:Nat->Bool)(fr:I)(cs:List I)(V:J):Prop where
 sim:Sim id P.globals.size (λ_=>False) V V
 loops:LoopsOk (ZE (Z6 P fs) fs Gs) V
 fro:FrR (Z6 P fs) fs Gs id (Live V) fr fr
 cso:CsR (Z6 P fs) fs Gs id (Live V) [trap] [trap] cs cs
 hb:cs=[trap]->fr.roundOf=NB
structure Solo(P:Z)(fs:Array Func)(Gs:Nat->Bool):Prop where
 ok:Y5 (Z6 P fs) fs
 all:∀f,Ent (Z6 P fs) fs f->Tm (Z6 P fs) fs Gs f
inductive Halts(P:Z)(E:I->List I->J->Prop):I->List I->J->Prop
 |done {fr cs V} (t):E fr cs (retape t V)->Halts P E fr cs V
 |step {fr cs V} (nf:(Nat->Question->Nat)->I) (nc:(Nat->Question->Nat)->List I) (nV:(Nat->Question->Nat)->J) (ne:(Nat->Question->Nat)->Array Event):
   (∀t,stepG P U (G fr cs) (retape t V)= .go (G (nf t) (nc t)) (nV t) (ne t))->(∀t,Halts P E (nf t) (nc t) (nV t))->Halts P E fr cs V
section
variable {P:Z}{fs:Array Func}{Gs:Nat->Bool}{fr:I}{cs:List I}{V:J}
def Y8{a:I}{c:List I}(h:G a c=G b d):a=b/\c=d:=by cases h;exact⟨rfl,rfl⟩
def Sim0.self{P:Z}{V:J}(h:Sim0 id P.globals.size Fz V V):Sim id P.globals.size Fz V V:={toSim0:=h,tape:=λ_=>rfl}
def ir(h:Sim id P.globals.size (λ_=>False) V V)(t):Sim id P.globals.size (λ_=>False) (retape t V) (retape t V):=
 {obj:=h.obj,inj:=h.inj,fz:=h.fz,low:=h.low,gV:=h.gV,gw:=h.gw,tape:=λ_=>rfl,next:=h.next}
def Self.retape(h:Self P fs Gs fr cs V)(t):Self P fs Gs fr cs (retape t V):=⟨ir h.sim t,h.loops,h.fro,h.cso,h.hb⟩
def aj{P:Z}{a:I}(h:Top P fs Gs ρ L a b)(g:∀f,Ent P fs f->Tm P fs Gs f):FrR P fs Gs ρ L a b:=by
 cases h with|own h=>exact h|other e c _ _=>exact absurd (g _ c) e
def D4{d:Deferred}(h:DsRel ρ L (d::ds) y):∃r a,d={target:= .collected r,args:= #[]}/\L r/\y={target:= .collected (ρ r),args:= #[]}::a/\DsRel ρ L ds a:=by
 cases h with|cons c e=>exact⟨_,_,rfl,c,rfl,e⟩
structure Pan(P:Z)(fs:Array Func)(Gs:Nat->Bool)(fr:I)(cs:List I)(V:J):Prop where
 sim:Sim id P.globals.size (λ_=>False) V V
 loops:LoopsOk (ZE (Z6 P fs) fs Gs) V
 tm:Tm (Z6 P fs) fs Gs fr.fn
 defers:DsRel id (Live V) fr.defers fr.defers
 cso:CsR (Z6 P fs) fs Gs id (Live V) [trap] [trap] cs cs
 mode:∃c,fr.mode= .panicking c
def MY(H:Solo P fs Gs)(hG:∀g,Gs g=U->Live V g)(h:Self P fs Gs fr cs V):
 ((∃o a es,stepG (Z6 P fs) U (G fr cs) V= .ended o a es)\/∃fr1 a es,stepG (Z6 P fs) U (G fr cs) V= .go (G fr1 cs) a es/\Pan P fs Gs fr1 cs a)\/
 (∃fr1 cs1 a es,stepG (Z6 P fs) U (G fr cs) V= .go (G fr1 cs1) a es/\Self P fs Gs fr1 cs1 a/\(∀b,Live V b->Live a b)/\Fwd V a/\
   ∀t,Agr V a t->stepG (Z6 P fs) U (G fr cs) (Nk.retape t V)= .go (G fr1 cs1) (Nk.retape t a) es)\/
 (cs=[trap]/\fr.mode= .returning/\fr.defers=[]):=by
 have key:=EW (P:=Z6 P fs) (fs:=fs) (Gs:=Gs) (ρ:=id) (Fz:=λ_=>False) (bot:=[trap]) (bot':=[trap]) H.ok (λg X=>⟨hG g X,rfl⟩) (mn:=U) (mn':=U) h.sim h.loops h.fro h.cso h.hb;rcases key with(⟨o,a,es,e1,_⟩|⟨fr1,a,c,e,w1,f,e1,e2,hm,B,M,C,x,O⟩)|⟨fr1,cs1,a,c,e,_,w1,f,e1,⟨F,e2⟩,T,hc,W,C,x,Y⟩|key
 .exact .inl (.inl ⟨o,a,es,e1⟩)
 .left;right
  have e1:stepG (Z6 P fs) U (G fr cs) V= .go (G fr1 cs) a c:=e1;have e2:stepG (Z6 P fs) U (G fr cs) V= .go (G e cs) w1 f:=e2;rw[e1]at e2;injection e2 with A z K;obtain⟨rfl,_⟩:=Y8 A;subst z;exact⟨fr1,a,c,e1,C.self,x,by rw[B];exact h.fro.tm,M,h.cso.up O,hm⟩
 .right;left
  have e1:stepG (Z6 P fs) U (G fr cs) V= .go (G fr1 cs1) a c:=e1;have e3:=e2 V.tape (λ_ _ _=>rfl);have e4:Nk.retape V.tape w1=w1:=by unfold Nk.retape;rw[<-F.2]
  simp only[Vt]at e3;rw[e4]at e3;rw[e1]at e3;injection e3 with A z K;obtain⟨rfl,rfl⟩:=Y8 A;subst z;subst K;exact⟨fr1,cs1,a,c,e1,⟨C.self,x,aj T.1 H.all,hc,W⟩,Y.live,F,e2⟩
 .exact .inr (.inr ⟨key.1,key.2.2.1,key.2.2.2⟩)
def Halts.of_step(h:∀t,∃fr1 cs1 a es,stepG P U (G fr cs) (Nk.retape t V)= .go (G fr1 cs1) a es/\Halts P E fr1 cs1 a):Halts P E fr cs V:=by
 refine .step (λt=>(h t).choose) (λt=>(h t).choose_spec.choose) (λt=>(h t).choose_spec.choose_spec.choose) (λt=>(h t).choose_spec.choose_spec.choose_spec.choose) (λt=> ?_) (λt=> ?_)
 .exact(h t).choose_spec.choose_spec.choose_spec.choose_spec.1
 .exact(h t).choose_spec.choose_spec.choose_spec.choose_spec.2
def Qp{P:Z}(h:runN P (n+1) m= .next m'):∃a,step P m= .next a/\runN P n a= .next m':=by
 simp only[runN]at h;split at h
 .exact⟨_,‹_›,h⟩
 .rename_i hx;exact absurd h (hx m')
def LS{P:Z}{fr:I}{cs:List I}{w:J}{o:Outcome}(h:stepG P U (G fr cs) w= .ended o w1 es):step P (lone fr cs w)= .ended o w1:=
 step_lone_ended (by show(stepG P U (G fr cs) w).bare=_;rw[h];rfl)
def Vb{P:Z}{fr:I}{cs:List I}{w:J}(h:stepG P U (G fr cs) w= .go (G fr1 cs1) w1 es):step P (lone fr cs w)= .next (lone fr1 cs1 w1):=
 QT (by show(stepG P U (G fr cs) w).bare=_;rw[h];rfl)
def MU{P:Z}{fr:I}{cs:List I}{w c:J}{o:Outcome}(h:stepG P U (G fr cs) w= .ended o w1 es)(e:runN P (n+1) (lone fr cs w)= .next (lone fr' cs' c)):False:=by
 obtain⟨_,a,_⟩:=Qp e;rw[LS h]at a;cases a
def PF{fr:I}{cs:List I}{w a:J}(h:lone fr cs w=lone fr' cs' a):fr=fr'/\cs=cs'/\w=a:=by
 unfold lone at h;simp only[Machine.mk.injEq,Array.mk.injEq,SU,Goroutine.mk.injEq]at h;exact⟨h.2.1.1.1,h.2.1.1.2.1,h.1⟩
def dead_pan:∀(n:Nat)(fr:I)(cs:List I)(V:J),Pan P fs Gs fr cs V->∀{fr':I}{cs':List I}{V':J},runN (Z6 P fs) n (lone fr cs V)= .next (lone fr' cs' V')->∃c,fr'.mode= .panicking c:=by
 intro n
 induction n with
 |zero=>
  intro fr cs V h fr' cs' V' z;simp only[runN,UK]at z;obtain⟨rfl,_,_⟩:=PF z;exact h.mode
 |succ n Y=>
  intro fr cs V h fr' cs' V' z;obtain⟨c,F⟩:=h.mode;have e1:stepG (Z6 P fs) U (G fr cs) V=unwind (Z6 P fs) U fr cs NB V:=by simp only[G,stepG,F]
  obtain⟨m1,x,A⟩:=Qp z;have K:=h.defers;cases Fq:fr.defers with
  |nil=>
   obtain⟨fn,O,t1,t2,t3,t4⟩:=h.tm;have Kc:fr.catches (Z6 P fs)=ND:=by
    unfold Frame.catches;rw[t2]
   cases hc:h.cso with
   |nil=>
    have e2:stepG (Z6 P fs) U (G fr [trap]) V= .go (G (trap.raise c) []) V:=by
     rw[e1];simp only[unwind,Fq,F,Kc,YR,VF];rfl
    rw[Vb e2]at x;cases x;cases n with
    |zero=>
     simp only[runN,UK]at A;obtain⟨rfl,_,_⟩:=PF A;exact MQ _ _
    |succ n=>
     have e3:∃o es,stepG (Z6 P fs) U (G (trap.raise c) []) V= .ended o V es:=⟨_,_,rfl⟩;obtain⟨o,es,e3⟩:=e3;exact(MU e3 A).elim
   |cons W hb An=>
    rename_i f B;have e2:stepG (Z6 P fs) U (G fr (f::B)) V= .go (G (f.raise c) B) V:=by
     rw[e1];simp only[unwind,Fq,F,Kc,YR,VF];rfl
    rw[Vb e2]at x;cases x;exact Y _ _ _ ⟨h.sim,h.loops,by rw[IL];exact W.tm,by rw[MS];exact W.defers,An,MQ _ _⟩ A
  |cons d ds=>
   rw[Fq]at K;obtain⟨r,a0,rfl,hr,e,Tb⟩:=D4 K;simp only[id,SU,true_and]at e;subst e;rcases OM (P:=Z6 P fs) (DW (fs:=fs) (P:=Z6 P fs) (Gs:=Gs) (ρ:=id) hr) h.sim h.loops with⟨hh,g,es,a,_⟩|⟨g,w1,new,es,Bi,H,T,⟨v,M,L1,a,X,Cn,hv⟩|⟨v,M,a,_⟩⟩
   .have e2:stepG (Z6 P fs) U (G fr cs) V= .ended (.stuck "the deferred calls of a range-over-func loop have been taken" (fr.pos (Z6 P fs))) g (seen (Z6 P fs) fr.fn es++ #[]):=by
     rw[e1];have a:(Instr.takeDeferred r).runT (Z6 P fs) V #[]=_:=a;simp only[unwind,Fq,a];rfl
    exact(MU e2 z).elim
   .have a:(Instr.takeDeferred r).runT (Z6 P fs) V #[]=(.ok v g,es):=a;have C:=X.2 V.tape (λ_ _ _=>rfl);have C:(Instr.takeDeferred r).runT (Z6 P fs) V #[]=(.ok M (retape V.tape w1),new):=C;rw[a]at C;injection C with q1 q2;injection q1 with q3 q4;subst q3;have e4:Nk.retape V.tape w1=w1:=(by unfold Nk.retape;rw[<-X.1.2]);rw[e4]at q4;subst q4;have e2:stepG (Z6 P fs) U (G fr cs) V= .go (G {fr with defers:=v++ds} cs) g (seen (Z6 P fs) fr.fn es++ #[]):=by
     rw[e1];simp only[unwind,Fq,a];rfl
    rw[Vb e2]at x;cases x;exact Y {fr with defers:=v++ds} cs g ⟨Bi,H,h.tm,(hv.up Cn).append (Tb.up T.live),h.cso.up T.live,⟨c,F⟩⟩ A
   .have e2:stepG (Z6 P fs) U (G fr cs) V= .ended (.stuck "the deferred calls of a range-over-func loop have been taken" (fr.pos (Z6 P fs))) g (seen (Z6 P fs) fr.fn es++ #[]):=by
     rw[e1];have a:(Instr.takeDeferred r).runT (Z6 P fs) V #[]=_:=a;simp only[unwind,Fq,a];rfl
    exact(MU e2 z).elim
structure IsEnd(E:I->List I->J->Prop):Prop where
 at_:∀fr cs V,E fr cs V->cs=[trap]/\fr.mode= .returning
 defers:∀fr cs V,E fr cs V->fr.defers=[]
 tape:∀fr cs V t,E fr cs V->E fr cs (Nk.retape t V)
def bv(C:IsEnd E)(h:Self P fs Gs fr [trap] V)(f:fr.mode= .returning)(g:fr.defers=[]){n:Nat}{fr':I}{cs':List I}{V':J}
 (A:runN (Z6 P fs) (n+1) (lone fr [trap] V)= .next (lone fr' cs' V'))(B:E fr' cs' V'):False:=by
 obtain⟨_,z,e⟩:=Qp A;obtain⟨F,_,_,x,_,_⟩:=h.fro.tm;have e1:stepG (Z6 P fs) U (G fr [trap]) V=unwind (Z6 P fs) U fr [trap] NB V:=by simp only[G,stepG,f]
 obtain⟨K,_⟩:=C.at_ _ _ _ B;cases hx:(results F fr.tmps).runT (Z6 P fs) V #[]with
 |mk r es=>
  cases r with
  |halt H a=>
   have e2:∃o c,stepG (Z6 P fs) U (G fr [trap]) V= .ended o a c:=by
    rw[e1];simp only[unwind,g,f,x,hx];cases H<;>exact⟨_,_,rfl⟩
   obtain⟨o,c,e2⟩:=e2;exact MU e2 A
  |ok v a=>
   have e2:stepG (Z6 P fs) U (G fr [trap]) V= .go (G (trap.finish v) []) a (seen (Z6 P fs) fr.fn es++ #[]):=by
    rw[e1];simp only[unwind,g,f,x,hx,doReturn,h.fro.kind.1];rfl
   rw[Vb e2]at z;cases z;cases n with
   |zero=>
    simp only[runN,UK]at e;obtain⟨_,rfl,_⟩:=PF e;cases K
   |succ n=>
    have e3:∃o es,stepG (Z6 P fs) U (G (trap.finish v) []) a= .ended o a es:=⟨_,_,rfl⟩;obtain⟨o,es,e3⟩:=e3;exact MU e3 e
def AM(g:IsEnd E)(h:(∃o a es,stepG (Z6 P fs) U (G fr cs) V= .ended o a es)\/∃fr1 a es,stepG (Z6 P fs) U (G fr cs) V= .go (G fr1 cs) a es/\Pan P fs Gs fr1 cs a)
 {n:Nat}{fr':I}{cs':List I}{V':J}(f:runN (Z6 P fs) (n+1) (lone fr cs V)= .next (lone fr' cs' V'))(x:E fr' cs' V'):False:=by
 rcases h with⟨o,a,es,e⟩|⟨fr1,a,es,e,z⟩
 .exact MU e f
 .obtain⟨m1,h1,h2⟩:=Qp f;rw[Vb e]at h1;cases h1;obtain⟨c,A⟩:=dead_pan n _ _ _ z h2;have:=(g.at_ _ _ _ x).2;rw[A]at this;cases this
def MZ(P:Z)(E:I->List I->J->Prop)(fr:I)(cs:List I)(V:J):Prop:=
 ∀t,∃n fr' cs' V',runN P n (lone fr cs (Nk.retape t V))= .next (lone fr' cs' V')/\E fr' cs' V'
def run_local(W:Solo P fs Gs)(o:IsEnd E):∀(n:Nat)(fr:I)(cs:List I)(V:J),(∀g,Gs g=U->Live V g)->Self P fs Gs fr cs V->∀{fr':I}{cs':List I}{V':J},
 runN (Z6 P fs) n (lone fr cs V)= .next (lone fr' cs' V')->E fr' cs' V'->Fwd V V'/\∀t,Agr V V' t->runN (Z6 P fs) n (lone fr cs (Nk.retape t V))= .next (lone fr' cs' (Nk.retape t V')):=by
 intro n
 induction n with
 |zero=>
  intro fr cs V _ _ fr' cs' V' a _;simp only[runN,UK]at a;obtain⟨rfl,rfl,rfl⟩:=PF a;exact⟨Fwd.refl _,λt _=>rfl⟩
 |succ n Y=>
  intro fr cs V z h fr' cs' V' a c;rcases MY W z h with F|⟨fr1,cs1,K,es,e,M,T,x,O⟩|⟨rfl,X,B⟩
  .exact(AM o F a c).elim
  .obtain⟨m1,q1,q2⟩:=Qp a;rw[Vb e]at q1;cases q1;obtain⟨A,C⟩:=Y fr1 cs1 K (λg H=>T g (z g H)) M q2 c;refine⟨x.trans A,λt f=> ?_⟩;simp only[runN];rw[Vb (O t (f.left A))];exact C t (f.right x)
  .exact(bv o h X B a c).elim
def eW(t a:Nat->Question->Nat)(V:J):Nk.retape t (Nk.retape a V)=Nk.retape t V:=rfl
def om(hs:Solo P fs Gs)(F:IsEnd E)(T:∀g,Gs g=U->Live V g)(h:Self P fs Gs fr cs V)(hT:MZ (Z6 P fs) E fr cs V)(hn:¬Halts (Z6 P fs) E fr cs V):
 ∃t fr1 cs1 f es,stepG (Z6 P fs) U (G fr cs) (Nk.retape t V)= .go (G fr1 cs1) f es/\Self P fs Gs fr1 cs1 f/\(∀g,Gs g=U->Live f g)/\V.drawn<=f.drawn/\f.tape=t/\
  (∀x,(∀i,V.drawn<=i->i<f.drawn->x i=t i)->stepG (Z6 P fs) U (G fr cs) (Nk.retape x V)= .go (G fr1 cs1) (Nk.retape x f) es)/\
  MZ (Z6 P fs) E fr1 cs1 f/\¬Halts (Z6 P fs) E fr1 cs1 f:=by
 have Br:∀t,¬E fr cs (Nk.retape t V):=λt z=>hn (.done t z)
 have M:∃t,∀fr1 cs1 f es,stepG (Z6 P fs) U (G fr cs) (Nk.retape t V)= .go (G fr1 cs1) f es->¬Halts (Z6 P fs) E fr1 cs1 f:=by
  apply VQ;intro hc;refine hn (.of_step λt=> ?_);apply VQ;intro Dq;exact hc ⟨t,λfr1 cs1 f es e hh=>Dq ⟨fr1,cs1,f,es,e,hh⟩⟩
 obtain⟨t,M⟩:=M;have o:∀t,∃n fr' cs' V',runN (Z6 P fs) (n+1) (lone fr cs (Nk.retape t V))= .next (lone fr' cs' V')/\E fr' cs' V':=by
  intro t;obtain⟨n,fr',cs',V',B,z⟩:=hT t;cases n with
  |zero=>
   simp only[runN,UK]at B;obtain⟨rfl,rfl,rfl⟩:=PF B;exact absurd z (Br t)
  |succ n=>exact⟨n,fr',cs',V',B,z⟩
 obtain⟨n,fr',cs',V',B,z⟩:=o t;rcases MY hs (V:=Nk.retape t V) T (h.retape t)with hb|⟨fr1,cs1,f,es,e,Bi,hl,Y,Nd⟩|⟨rfl,hm,hd⟩
 .exact(AM F hb B z).elim
 .refine⟨t,fr1,cs1,f,es,e,Bi,λg K=>hl g (T g K),Y.1,Y.2,λx O=>Nd x O,λA=> ?_,M _ _ _ _ e⟩
  let x:Nat->Question->Nat:=λi=>if i<f.drawn then t i else A i
  obtain⟨W,a,b,c,H,C⟩:=o x;obtain⟨_,q1,q2⟩:=Qp H;have X:=Nd x (λi _ hi=>by show(if i<f.drawn then t i else A i)=t i;rw[YZ hi]);rw[eW]at X;rw[Vb X]at q1;cases q1;obtain⟨_,i2⟩:=run_local hs F W fr1 cs1 (Nk.retape x f) (λg K=>hl g (T g K)) (Bi.retape x) q2 C
  have:=i2 A (λi hi _=>by
   have hi:f.drawn<=i:=hi;show A i=(if i<f.drawn then t i else A i);rw[XB OA])
  exact⟨W,a,b,_,this,F.tape _ _ _ A C⟩
 .exact(bv F (h.retape t) hm hd B z).elim
structure Link(P:Z)(fs:Array Func)(Gs:Nat->Bool)(E:I->List I->J->Prop) where
 fr:I
 cs:List I
 V:J
 glob:∀g,Gs g=U->Live V g
 self:Self P fs Gs fr cs V
 term:MZ (Z6 P fs) E fr cs V
 not:¬Halts (Z6 P fs) E fr cs V
def FI(a b:Link P fs Gs E):Prop:=
 a.V.drawn<=b.V.drawn/\∃es,∀c,(∀i,a.V.drawn<=i->i<b.V.drawn->c i=b.V.tape i)->stepG (Z6 P fs) U (G a.fr a.cs) (Nk.retape c a.V)= .go (G b.fr b.cs) (Nk.retape c b.V) es
def follows(B:Solo P fs Gs)(f:IsEnd E)(a:Link P fs Gs E):∃b,FI a b:=by
 obtain⟨t,fr1,cs1,h,es,e,o,e,A,g,z,c,x⟩:=om B f a.glob a.self a.term a.not;exact⟨⟨fr1,cs1,h,e,o,c,x⟩,A,es,λe c=>z e (λi hi e=>by rw[c i hi e,g])⟩
def dK(C:Solo P fs Gs)(B:IsEnd E)(W:∀g,Gs g=U->Live V g)(h:Self P fs Gs fr cs V)(A:MZ (Z6 P fs) E fr cs V):Halts (Z6 P fs) E fr cs V:=by
 apply VQ;intro X
 let F:Link P fs Gs E->Link P fs Gs E:=λa=>(follows C B a).choose
 have Y:∀a,FI a (F a):=λa=>(follows C B a).choose_spec
 let a0:Link P fs Gs E:=⟨fr,cs,V,W,h,A,X⟩
 let s:Nat->Link P fs Gs E:=λn=>Nat.rec a0 (λ_ a=>F a) n
 have z:∀n,FI (s n) (s (n+1)):=λn=>Y (s n)
 have mono:∀m n,m<=n->(s m).V.drawn<=(s n).V.drawn:=by
  intro m n _
  induction n with
  |zero=>obtain rfl:m=0:=OA
         exact XA _
  |succ n x=>
   rcases VC n m with A5|Ha
   .obtain rfl:m=n+1:=OA;exact XA _
   .exact XC (x Ha) (z n).1
 let T:Nat->Question->Nat:=λi=>open Classical in if c:∃n,(s n).V.drawn<=i/\i<(s (n+1)).V.drawn then(s (c.choose+1)).V.tape i else λ_=>0
 have K:∀n i,(s n).V.drawn<=i->i<(s (n+1)).V.drawn->T i=(s (n+1)).V.tape i:=by
  intro n i M H;have c:∃n,(s n).V.drawn<=i/\i<(s (n+1)).V.drawn:=⟨n,M,H⟩;have e:c.choose=n:=by
   obtain⟨_,_⟩:=c.choose_spec;rcases QV c.choose n with A5|he|A5
   .have:=mono (c.choose+1) n A5;omega
   .exact he
   .have:=mono (n+1) c.choose A5;omega
  have e2:T i=(s (c.choose+1)).V.tape i:=dif_pos c;rw[e2,e]
 have f:∀n,runN (Z6 P fs) n (lone fr cs (Nk.retape T V))= .next (lone (s n).fr (s n).cs (Nk.retape T (s n).V)):=by
  intro n
  induction n with
  |zero=>rfl
  |succ n x=>
   rw[runN_add,x];obtain⟨_,es,O⟩:=z n;simp only[runN];rw[Vb (O T (K n))]
 obtain⟨n,fr',cs',V',o,he⟩:=A T;rw[f n]at o;simp only[UK]at o;obtain⟨rfl,rfl,rfl⟩:=PF o;exact(s n).not (.done T he)
end
end
inductive Tr where
 |leaf
 |node (f:J->Tr)
def Tx(a b:Tr):Prop:=∃f w,b= .node f/\a=f w
def trLt_wf:WellFounded Tx:=⟨λt=>by
 induction t with|leaf=>exact⟨_,λy ⟨f,w,h,_⟩=>by cases h⟩|node f a=>exact⟨_,λy ⟨_,w,h,e⟩=>by cases h;subst e;exact a w⟩⟩
def Tr.ofNat:Nat->Tr
 |0=> .leaf
 |n+1=> .node λ_=>Tr.ofNat n
def grow(o:Nat->Prop)(w a:J):Nat->Prop:=λb=>o b\/(w.heap.size<=b/\b<a.heap.size)
section
variable (P:Z)(main:Bool)(R:(Nat->Prop)->J->J->Prop)(D:(Nat->Prop)->J->J->Array Event->Prop)(Stop:(Nat->Prop)->NR->J->Prop)
def GoT:Tr->(Nat->Prop)->NR->J->Prop
 | .leaf,o,g,w=>∀a,R o w a->Stop o g a
 | .node f,o,g,w=>(∀a,R o w a->Stop o g a)\/(g.status= .running/\∀a,R o w a->(stepG P main g a).goes λe c es=>D o a c es/\GoT (f a) (grow o a c) e c)
end
section
variable {P:Z}{main:Bool}{R R':(Nat->Prop)->J->J->Prop}{D D':(Nat->Prop)->J->J->Array Event->Prop}{Stop Stop':(Nat->Prop)->NR->J->Prop}
def LH{K a:NR->J->Array Event->Prop}(h:s.goes K)(c:∀g w es,K g w es->a g w es):s.goes a:=by
 cases s with|go g w es=>exact c _ _ _ h|_=>exact h
def goes_iff{K:NR->J->Array Event->Prop}:s.goes K↔∃g w es,s= .go g w es/\K g w es:=by
 cases s with|go g w es=>exact⟨λh=>⟨g,w,es,rfl,h⟩,fun⟨_,_,_,e,h⟩=>by cases e;exact h⟩|_=>exact⟨λh=>h.elim,fun⟨_,_,_,e,_⟩=>by cases e⟩
def GoT.stop(r:Tr){o:Nat->Prop}{g:NR}{w:J}(h:∀a,R o w a->Stop o g a):GoT P main R D Stop r o g w:=by
 cases r with|leaf=>exact h|node f=>exact .inl h
def GoT.step{o:Nat->Prop}{g:NR}{w:J}(f:g.status= .running)
 (h:∀a,R o w a->∃e c es r,stepG P main g a= .go e c es/\D o a c es/\GoT P main R D Stop r (grow o a c) e c):∃r,GoT P main R D Stop r o g w:=by
 classical
 refine⟨.node λa=>if c:R o w a then(h a c).choose_spec.choose_spec.choose_spec.choose else .leaf,.inr ⟨f,λa c=> ?_⟩⟩;simp only[dif_pos c];obtain⟨e,d,x⟩:=(h a c).choose_spec.choose_spec.choose_spec.choose_spec;exact goes_iff.2 ⟨_,_,_,e,d,x⟩
def GoT.rely(trans:∀o a b c,R o a b->R o b c->R o a c){r:Tr}{o:Nat->Prop}{g:NR}{w A:J}(h:GoT P main R D Stop r o g w)(z:R o w A):GoT P main R D Stop r o g A:=by
 cases r with
 |leaf=>exact λx e=>h x (trans _ _ _ _ z e)
 |node f=>
  rcases h with h|⟨B,h⟩
  .exact .inl λx e=>h x (trans _ _ _ _ z e)
  .exact .inr ⟨B,λx e=>h x (trans _ _ _ _ z e)⟩
def GoT.mono(z:∀o a b,R' o a b->R o a b)(F:∀o a b es,D o a b es->D' o a b es)(A:∀o g w,Stop o g w->Stop' o g w):∀{r:Tr}{o:Nat->Prop}{g:NR}{w:J},GoT P main R D Stop r o g w->GoT P main R' D' Stop' r o g w:=by
 intro r
 induction r with
 |leaf=>exact λh c e=>A _ _ _ (h c (z _ _ _ e))
 |node f B=>
  intro o g w h;rcases h with h|⟨C,h⟩
  .exact .inl λc e=>A _ _ _ (h c (z _ _ _ e))
  .exact .inr ⟨C,λc e=>LH (h c (z _ _ _ e)) λ_ _ es ⟨d,x⟩=>⟨F _ _ _ _ d,B c x⟩⟩
def GoT.seq(refl:∀o w,R o w w)(c:∀o g w,Stop o g w->∃r,GoT P main R D Stop' r o g w):∀{r:Tr}{o:Nat->Prop}{g:NR}{w:J},GoT P main R D Stop r o g w->∃a,GoT P main R D Stop' a o g w:=by
 intro r
 induction r with
 |leaf=>exact fun{o g w} h=>c _ _ _ (h w (refl o w))
 |node f B=>
  intro o g w h;rcases h with h|⟨F,h⟩
  .exact c _ _ _ (h w (refl o w))
  .refine GoT.step F λz C=> ?_
   obtain⟨K,A,es,e,d,x⟩:=goes_iff.1 (h z C);obtain⟨a,H⟩:=B z x;exact⟨K,A,es,a,e,d,H⟩
def GoT.running(refl:∀o w,R o w w)(a:∀o g w,Stop o g w->g.status= .running){r:Tr}{o:Nat->Prop}{g:NR}{w:J}(h:GoT P main R D Stop r o g w):g.status= .running:=by
 cases r with
 |leaf=>exact a _ _ _ (h w (refl o w))
 |node f=>
  rcases h with h|⟨c,_⟩
  .exact a _ _ _ (h w (refl o w))
  .exact c
def WI{o:Nat->Prop}{w a:J}(h:a.heap.size=w.heap.size):grow o w a=o:=by
 funext b;apply propext;unfold grow;constructor
 .rintro(h1|⟨h1,h2⟩)
  .exact h1
  .omega
 .exact .inl
def GoT.of_goes{o:Nat->Prop}{A:J->J->Prop}{B:J->J->Array Event->Prop}{z:NR->J->Prop}(f:∀a b,R o a b->A a b)(H:∀a b es,B a b es->D o a b es/\b.heap.size=a.heap.size)
 (C:∀g w,z g w->Stop o g w):∀{n:Nat}{g:NR}{w:J},Goes P main A B z n g w->GoT P main R D Stop (.ofNat n) o g w:=by
 intro n
 induction n with
 |zero=>exact λh c e=>C _ _ (h c (f _ _ e))
 |succ n O=>
  intro g w h;rcases h with h|⟨M,h⟩
  .exact .inl λc e=>C _ _ (h c (f _ _ e))
  .refine .inr ⟨M,λc e=>LH (h c (f _ _ e)) λ_ _ es ⟨d,x⟩=> ?_⟩;obtain⟨K,F⟩:=H _ _ _ d;refine⟨K,?_⟩;rw[WI F];exact O x
end
def K9(n:Nat)(a b:Nat->Tr):Prop:=∃i,i<n/\Tx (a i) (b i)/\∀k,k<n->k≠i->a k=b k
def iT{α β:Type}{r:α->α->Prop}{s:β->β->Prop}{a:α}(o:Acc r a):∀{b:β},Acc s b->Acc (λx y:α×β=>(r x.1 y.1/\x.2=y.2)\/(x.1=y.1/\s x.2 y.2)) (a,b):=by
 induction o with
 |intro a _ g=>
  intro b z
  induction z with
  |intro b f h=>
   refine⟨_,?_⟩;rintro⟨x,y⟩ (⟨e,c⟩|⟨e,c⟩)
   .simp only at e c;subst c;exact g x e ⟨_,f⟩
   .simp only at e c;subst e;exact h y c
def rowLt_wf:∀n,WellFounded (K9 n):=by
 intro n
 induction n with
 |zero=>exact⟨λa=>⟨_,λy ⟨i,hi,_⟩=>by omega⟩⟩
 |succ n z=>
  have c:∀(p:Tr×(Nat->Tr)),Acc (λx y:Tr×(Nat->Tr)=>(Tx x.1 y.1/\x.2=y.2)\/(x.1=y.1/\K9 n x.2 y.2)) p:=λp=>iT (trLt_wf.apply p.1) (z.apply p.2)
  let cut:(Nat->Tr)->(Nat->Tr):=λa i=>if i<n then a i else .leaf
  have C:∀(p:Tr×(Nat->Tr)),Acc (λx y:Tr×(Nat->Tr)=>(Tx x.1 y.1/\x.2=y.2)\/(x.1=y.1/\K9 n x.2 y.2)) p->∀a,(a n,cut a)=p->Acc (K9 (n+1)) a:=by
   intro p o
   induction o with
   |intro p _ f=>
    intro a A;refine⟨_,λb B=> ?_⟩;obtain⟨i,hi,h,e⟩:=B;refine f (b n,cut b) ?_ b rfl;rw[<-A];rcases VC i n with Ao|Ao
    .right
     refine⟨e n OA OA,i,Ao,by simp only[cut,YZ Ao];exact h,λk g F=>by simp only[cut,YZ g];exact e k OA F⟩
    .left
     obtain rfl:i=n:=OA;refine⟨h,?_⟩;funext k;simp only[cut];split
     .rename_i g;exact e k OA OA
     .rfl
  exact⟨λa=>C _ (c _) a rfl⟩
def Km(a b:Nat×Nat×(Nat->Tr)):Prop:=a.1<b.1\/(a.1=b.1/\a.2.1=b.2.1/\K9 a.2.1 a.2.2 b.2.2)
def muLt_wf:WellFounded Km:=by
 constructor;have e:∀(k:Nat)(n:Nat)(a:Nat->Tr),(∀c,c<k->∀n a,Acc Km (c,n,a))->Acc Km (k,n,a):=by
  intro k n a C
  induction (rowLt_wf n).apply a with
  |intro a _ g=>
   refine⟨_,?_⟩;rintro⟨c,F,z⟩ (h|⟨A,x,B⟩)
   .exact C c h F z
   .simp only at A x B;subst A;subst x;exact g z B
 have o:∀k n a,Acc Km (k,n,a):=by
  intro k
  induction k using Nat.strongRecOn with|_ k g=>exact λn a=>e k n a λc f=>g c f
 exact fun⟨k,n,a⟩=>o k n a
section
open Go.ConcN (PermW RelBy fork_knows Deaf_absent)
section
variable (N0:Nat)(Sh Sn:Loc->Prop)(Own Rd:Nat->Loc->Prop)
structure ApartN(j:Nat):Prop where
 own:∀k k' l,k<j->k'<j->Own k l->Own k' l->k=k'
 ownRd:∀k k' l,k<j->k'<j->Own k l->¬Rd k' l
 ownSh:∀k l,k<j->Own k l->¬Sh l/\¬Sn l
 rdSh:∀k l,k<j->Rd k l->¬Sh l/\¬Sn l
structure TN(t:Trace)(j:Nat):Prop where
 quiet:Quiet Sh t
 own:∀k,k<j->∀l,Own k l->Perm t (N0+k) l
 rd:∀k,k<j->∀l,Rd k l->PermW t (N0+k) l
 free:∀l,l.isMemory=U->¬Sh l->¬Sn l->(∀k,k<j->¬Own k l/\¬Rd k l)->Perm t 0 l
 mine:∀l,l.isMemory=U->¬Sh l->¬Sn l->(∀k,k<j->¬Own k l)->PermW t 0 l
 nr:∀said,¬Race said t
 gs:∀(i:Nat)(op:MemOp),t[i]? =NA op->op.g<N0+j
def Jw(j:Nat)(op:MemOp):Prop:=
 op.g=0/\∀x,op.act.touch? =NA x->(Sh x.loc/\x.kind≠.plain)\/(¬Sh x.loc/\¬Sn x.loc/\(∀k,k<j->¬Own k x.loc)/\(x.write=U->∀k,k<j->¬Rd k x.loc))
def LM(k:Nat)(op:MemOp):Prop:=
 op.g=N0+k/\∀x,op.act.touch? =NA x->(Sh x.loc/\x.kind≠.plain/\x.kind≠.said)\/Own k x.loc\/(Rd k x.loc/\x.write=ND)
end
section
variable {N0:Nat}{Sh Sn:Loc->Prop}{Own Own' Rd:Nat->Loc->Prop}{t:Trace}
def TN.app0(hN:0<N0)(A:ApartN Sh Sn Own Rd j)(h:TN N0 Sh Sn Own Rd t j)(B:∀op∈u,Jw Sh Sn Own Rd j op):TN N0 Sh Sn Own Rd (t++u) j:=by
 refine⟨h.quiet.app λop c x hx f=> ?_,λk z l o=>(h.own k z l o).app λop c b H e=> ?_,λk z l o=>(h.rd k z l o).app λop c b H e Y=> ?_,
  λl C f g o=>(h.free l C f g o).app λop c _ _ _=>(B op c).1,λl C f g o=>(h.mine l C f g o).app λop c _ _ _ _=>(B op c).1,λK=> ?_,λi op hi=> ?_⟩
 .rcases(B op c).2 x hx with⟨_,M⟩|⟨g,_⟩
  .exact⟨M,λ_=>(B op c).1⟩
  .exact absurd f g
 .rcases(B op c).2 b H with⟨f,_⟩|⟨_,_,g,_⟩
  .exact absurd (e▸f) (A.ownSh k l z o).1
  .exact absurd (e▸o) (g k z)
 .rcases(B op c).2 b H with⟨f,_⟩|⟨_,_,_,g⟩
  .exact absurd (e▸f) (A.rdSh k l z o).1
  .exact absurd (e▸o) (g Y k z)
 .refine noRace_append (h.nr K) (λop c=>(B op c).1) (λi a T op c b H F=> ?_);have C:b.loc.isMemory=U:=F.1▸F.2.1;rcases(B op c).2 b H with⟨f,M⟩|⟨f,g,W,Gf⟩
  .exact h.quiet.known f M (λ_=>rfl) i a T F
  .cases Eb:b.write with
   |true=>exact h.free b.loc C f g (λk z=>⟨W k z,Gf Eb k z⟩) i a T F.1
   |false=>exact h.mine b.loc C f g W i a T F.1 (F.2.2.1.resolve_right (by simp[Eb]))
 .rcases getElem?_append_cases hi with⟨_,O⟩|⟨_,X⟩
  .exact h.gs i op O
  .rw[(B op X).1];omega
def TN.appW(A:ApartN Sh Sn Own Rd j)(h:TN N0 Sh Sn Own Rd t j){k:Nat}(B:k<j)(F:∀op∈u,LM N0 Sh Own Rd k op):TN N0 Sh Sn Own Rd (t++u) j:=by
 refine⟨h.quiet.app λop g x hx o=> ?_,λH c l f=>(h.own H c l f).app λop g b C e=> ?_,λH c l f=>(h.rd H c l f).app λop g b C e T=> ?_,
  λl hm o M f=>(h.free l hm o M f).app λop g b C e=> ?_,λl hm o M f=>(h.mine l hm o M f).app λop g b C e T=> ?_,λO=> ?_,λi op hi=> ?_⟩
 .rcases(F op g).2 x hx with⟨_,X,M⟩|ho|⟨z,_⟩
  .exact⟨X,λe=>absurd e M⟩
  .exact absurd o (A.ownSh k _ B ho).1
  .exact absurd o (A.rdSh k _ B z).1
 .rcases(F op g).2 b C with⟨o,_⟩|ho|⟨z,_⟩
  .exact absurd (e▸o) (A.ownSh H l c f).1
  .rw[(F op g).1,A.own k H l B c (e▸ho) f]
  .exact absurd (e▸z) (A.ownRd H k l c B f)
 .rcases(F op g).2 b C with⟨o,_⟩|ho|⟨_,z⟩
  .exact absurd (e▸o) (A.rdSh H l c f).1
  .exact absurd f (A.ownRd k H l B c (e▸ho))
  .rw[z]at T;cases T
 .rcases(F op g).2 b C with⟨K,_⟩|ho|⟨z,_⟩
  .exact absurd (e▸K) o
  .exact absurd (e▸ho) (f k B).1
  .exact absurd (e▸z) (f k B).2
 .rcases(F op g).2 b C with⟨K,_⟩|ho|⟨_,z⟩
  .exact absurd (e▸K) o
  .exact absurd (e▸ho) (f k B)
  .rw[z]at T;cases T
 .refine noRace_append (h.nr O) (λop g=>(F op g).1) (λi a ha op g b C W=> ?_);rcases(F op g).2 b C with⟨o,X,M⟩|ho|⟨z,Eb⟩
  .exact h.quiet.known o X (λe=>absurd e M) i a ha W
  .exact h.own k B b.loc ho i a ha W.1
  .exact h.rd k B b.loc z i a ha W.1 (W.2.2.1.resolve_right (by simp[Eb]))
 .rcases getElem?_append_cases hi with⟨_,Y⟩|⟨_,Oj⟩
  .exact h.gs i op Y
  .rw[(F op Oj).1];omega
def TN.appMute(h:TN N0 Sh Sn Own Rd t j){g:Nat}(O:g<N0+j)(K:∀op∈u,op.g=g)(A:∀op∈u,op.act.touch? =NB):TN N0 Sh Sn Own Rd (t++u) j:=by
 have o:∀op∈u,∀b,op.act.touch? =NA b->False:=λop c b e=>by rw[A op c]at e;cases e
 refine⟨h.quiet.app λop c x T _=>(o op c x T).elim,λk B l f=>(h.own k B l f).app λop c b e _=>(o op c b e).elim,λk B l f=>(h.rd k B l f).app λop c b e _ _=>(o op c b e).elim,
  λl H F A f=>(h.free l H F A f).app λop c b e _=>(o op c b e).elim,λl H F A f=>(h.mine l H F A f).app λop c b e _ _=>(o op c b e).elim,
  λz=>noRace_append (h.nr z) K λi a _ op c b e _=>(o op c b e).elim,λi op hi=> ?_⟩
 rcases getElem?_append_cases hi with⟨_,C⟩|⟨_,M⟩
 .exact h.gs i op C
 .rw[K op M];exact O
def TN.grow(h:TN N0 Sh Sn Own Rd t j)(x:∀k l,k<j->Own k l->Own' k l)(z:∀k l,k<j->Own' k l->Own k l\/∀i a,touchAt t i=NA a->a.loc≠l):TN N0 Sh Sn Own' Rd t j:=
 ⟨h.quiet,λk c l f=>(z k l c f).elim (h.own k c l) (λg i a o e=>absurd e (g i a o)),h.rd,λl a o g f=>h.free l a o g λk c=>⟨λe=>(f k c).1 (x k l c e),(f k c).2⟩,
   λl a o g f=>h.mine l a o g λk c e=>f k c (x k l c e),h.nr,h.gs⟩
def TN.fork(hN:0<N0)(A:ApartN Sh Sn Own Rd (j+1))(Du:∀l,Own j l->l.isMemory=U)(Jz:∀l,Rd j l->l.isMemory=U)(h:TN N0 Sh Sn Own Rd t j){x y:MemOp}(O:x.g=0/\x.act= .go (N0+j))(K:y.g=N0+j/\y.act= .start)(h0:Deaf t 0=0):
 TN N0 Sh Sn Own Rd (t++ #[x,y]) (j+1):=by
 have hk:Deaf t (N0+j)=0:=Deaf_absent λi op hi e=>by have:=h.gs i op hi;omega
 have B:∀op∈#[x,y],∀b,op.act.touch? =NA b->False:=by
  intro op c b f;simp only[List.mem_toArray,XG,XO,UE]at c;rcases c with rfl|rfl
  .rw[O.2]at f;cases f
  .rw[K.2]at f;cases f
 have F:∀{i:Nat}{a:Touch},touchAt (t++ #[x,y]) i=NA a->touchAt t i=NA a:=by
  intro i a T;obtain⟨z,hz,M⟩:=touch_of T;rcases getElem?_append_cases hz with⟨_,a1⟩|⟨_,a0⟩
  .rw[touchAt_of a1];exact M
  .exact(B z a0 a M).elim
 refine⟨h.quiet.app λop c b f _=>(B op c b f).elim,λk C l o=> ?_,λk C l o=> ?_,
  λl hm hs hn o=>(h.free l hm hs hn λk C=>o k OA).app λop c b f _=>(B op c b f).elim,λl hm hs hn o=>(h.mine l hm hs hn λk C=>o k OA).app λop c b f _ _=>(B op c b f).elim,λH=> ?_,λi op hi=> ?_⟩
 .rcases VC k j with Y|Ha
  .exact(h.own k Y l o).app λop c b f _=>(B op c b f).elim
  .obtain rfl:k=j:=OA
   obtain⟨n1,n2⟩:=A.ownSh _ l C o;exact λi a T e=>fork_knows O K h0 hk (h.free l (Du l o) n1 n2 (λk' W=>⟨λho=>by have:=A.own _ _ l OA OA ho o;omega,A.ownRd _ _ l C OA o⟩) i a (F T) e)
 .rcases VC k j with Y|Ha
  .exact(h.rd k Y l o).app λop c b f _=>(B op c b f).elim
  .obtain rfl:k=j:=OA
   obtain⟨n1,n2⟩:=A.rdSh _ l C o;exact λi a T e hw=>fork_knows O K h0 hk (h.mine l (Jz l o) n1 n2 (λk' W ho=>A.ownRd _ _ l OA C ho o) i a (F T) e hw)
 .have e:t++ #[x,y]=(t++ #[x])++ #[y]:=by apply Array.ext';simp
  rw[e]
  refine noRace_append (g:=N0+j) (noRace_append (g:=0) (h.nr H) (λop c=>by simp at c;rw[c];exact O.1) (λi a _ op c b f _=>(B op (by simp at c⊢;exact .inl c) b f).elim))
   (λop c=>by simp at c;rw[c];exact K.1) (λi a _ op c b f _=>(B op (by simp at c⊢;exact .inr c) b f).elim)
 .rcases getElem?_append_cases hi with⟨_,X⟩|⟨_,Oj⟩
  .have:=h.gs i op X;omega
  .simp only[List.mem_toArray,XG,XO,UE]at Oj;rcases Oj with rfl|rfl
   .rw[O.1];omega
   .rw[K.1];omega
structure RelN(Sh:Loc->Prop)(a:Addr)(t:Trace)(g r:Nat):Prop where
 by_:RelBy a t g r
 late:∀i x,r<i->t.g? i=NA g->touchAt t i=NA x->Sh x.loc/\x.kind= .atomic
def Q1{t:Trace}{op:MemOp}(h:t[i]? =NA op):t.g? i=NA op.g:=by simp[Trace.g?,h]
def RelN.app{a:Addr}{g r:Nat}(h:RelN Sh a t g r)(z:RelBy a (t++u) g r)(B:∀op∈u,op.g=g->∀x,op.act.touch? =NA x->Sh x.loc/\x.kind= .atomic):RelN Sh a (t++u) g r:=by
 refine⟨z,λi x hi f C=> ?_⟩;obtain⟨op,e,o⟩:=touch_of C;rcases getElem?_append_cases e with⟨_,c⟩|⟨_,A⟩
 .exact h.late i x hi (by rw[Q1 c,<-Q1 e];exact f) (by rw[touchAt_of c];exact o)
 .refine B op A ?_ x o;rw[Q1 e]at f;exact YT f
structure OldK(N0:Nat)(Sn:Loc->Prop)(t:Trace):Prop where
 known:∀i a g,t.g? i=NA g->g<N0->touchAt t i=NA a->a.loc.isMemory=U->Knows t 0 i\/(Sn a.loc/\a.kind= .atomic)
 over:∀i g,t.g? i=NA g->g≠0->g<N0->t.counts i->∃j,t.g? j=NA 0/\HappensBefore t i j
def OldK.app(h:OldK N0 Sn t)(H:∀op∈u,op.g=0\/N0<=op.g\/op.act.touch? =NB):OldK N0 Sn (t++u):=by
 refine⟨λi a g c A W T=> ?_,λi g c M A X=> ?_⟩
 .obtain⟨x,hx,Hl⟩:=touch_of W;rcases getElem?_append_cases hx with⟨_,e⟩|⟨_,o⟩
  .exact(h.known i a g (by rw[Q1 e,<-Q1 hx];exact c) A (by rw[touchAt_of e];exact Hl) T).imp (·.app u) id
  .rw[Q1 hx]at c;have c:=YT c;rcases H x o with h0|h0|h0
   .have:=knows_own hx;rw[h0]at this;exact .inl this
   .omega
   .rw[h0]at Hl;cases Hl
 .obtain⟨x,hx,hxm,Yy⟩:=X;obtain⟨op,F,C⟩:=touch_of hx;rw[Q1 F]at c;have c:=YT c;rcases getElem?_append_cases F with⟨hi,K⟩|⟨_,f⟩
  .obtain⟨q,hq,hb⟩:=h.over i g (by rw[Q1 K,c]) M A ((counts_old hi).1 ⟨x,hx,hxm,Yy⟩);have B:q<t.size:=by
    unfold Trace.g? at hq;obtain⟨z,O,_⟩:=VA.1 hq;exact lt_size_of_getElem? O
   exact⟨q,by simpa[Trace.g?,getElem?_append_old B]using hq,hb_app u hb⟩
  .rcases H op f with h0|h0|h0
   .omega
   .omega
   .rw[h0]at C;cases C
end
end
end Go.Nk
