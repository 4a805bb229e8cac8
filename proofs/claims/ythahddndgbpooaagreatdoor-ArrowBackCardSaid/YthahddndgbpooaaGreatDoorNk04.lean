import Derived.Test.YthahddndgbpooaaGreatDoorNkA
import Derived.Test.YthahddndgbpooaaGreatDoorNk03
import Derived.Conc.Beside
set_option linter.all false
open Go Go.Conc
variable {es:Array Event}{ops:Array Oper}{dr mn mn':Bool}{b fr' fr1:Frame}{E:Frame->List Frame->World->Prop}{s:GStep}{ds y:List Deferred}{bot' cs' cs1 d:List Frame}{k r:List Item}{Λ:Loop->Prop}{m m':Machine}{n:Nat}{ρ:Nat->Nat}{Fz L:Nat->Prop}{p:Program}{V' w1:World}
namespace Go.Nk
section
variable [Ban]
section
variable {P:Program}{fs:Array Func}{Gs:Nat->Bool}{V w:World}
theorem Z7Y(V w:World)(d d':Nat):Foot ρ Fz V w {V with drawn:=V.drawn+d} {w with drawn:=w.drawn+d'} #[]:=
 ⟨λ_ h=>h,λ_ h=> .inl h,XB _,XB _,λ_ _ _=>rfl,λe he=>by simp at he,rfl,rfl,rfl,QN _ _,λ_ _ _ h _=>⟨h,rfl⟩⟩
theorem Z7Z{G:Nat}(hS:Sim0 ρ G Fz V w)(d d':Nat):Sim0 ρ G Fz {V with drawn:=V.drawn+d} {w with drawn:=w.drawn+d'}:=
 {obj:=hS.obj,inj:=hS.inj,fz:=hS.fz,low:=hS.low,gV:=hS.gV,gw:=hS.gw,next:=hS.next}
theorem Z3s{G:Nat}(hS:Sim0 ρ G Fz V w)(hΛ:LoopsOk Λ V){r:Nat}{o o':Obj}(hr:Live V r)(ho:ORel ρ (Live V) true o o')(Kw:∀l,o= .loop l->Λ l)(Ft:∀c e f,o≠.cells c e f)(p' p:Program):
 (∃h V1,(setObj r o).run p' V= .halt h V1/\Bad h)\/∃V1 w1 new,(setObj r o).run p' V= .ok () V1/\(∀es,(setObj (ρ r) o').runT p w es=(.ok () w1,es++new))/\Sim0 ρ G Fz V1 w1/\LoopsOk Λ V1/\Foot ρ Fz V w V1 w1 new:=by
 show(∃h V1,(Sem.setObj r o (.pure ())).run p' V=_/\_)\/∃V1 w1 new,(Sem.setObj r o (.pure ())).run p' V=_/\(∀es,(Sem.setObj (ρ r) o' (.pure ())).runT p w es=_)/\_;simp only[Sem.run,Sem.runT];obtain⟨o0,hb,hl⟩:=hr;by_cases hc:∃c e f,o0= .cells c e f
 ·obtain⟨c,e,f,rfl⟩:=hc;rw[hb];exact .inl ⟨_,_,rfl,trivial⟩
 ·have Ch:=Z3g hS.toEmb hb hl (λc e f h=>hc ⟨c,e,f,h⟩);obtain⟨ow,Ic,_,h2⟩:=hS.get hb hl;have h0:=h2 Ch;rw[hb,Ic];have Wm:=ho.isChan
  have hf:=Z2g (w:=w) (o1:=o) (o2:=o') (new:= #[⟨.obj (ρ r),true,false⟩]) (Fz:=Fz) (ρ:=ρ) hb hl Ch ho.live (λx hx=>by
   simp at hx;subst hx;exact .inr (.inl ⟨r,true,rfl,⟨_,hb,hl⟩,Ch⟩)) (λx hx e=>hS.inj _ _ ⟨_,hb,hl⟩ hx e) (λa0 x e hx Ht=>by
   have A3:=(YF.1 hb).1;simp only[World.cell?,e,YM A3] at hx;split at hx
   ·rename_i h9;cases h9;exact absurd rfl (Ft _ _ _)
   ·cases hx)
  have key:∃V1 w1 new,(Result.ok () {V with heap:=V.heap.setIfInBounds r o}:Result Unit)= .ok () V1/\(∀es:Array Event,((Result.ok () {w with heap:=w.heap.setIfInBounds (ρ r) o'}:Result Unit),es.push ⟨.obj (ρ r),true,o'.isChan⟩)=(.ok () w1,es++new))/\Sim0 ρ G Fz V1 w1/\LoopsOk Λ V1/\Foot ρ Fz V w V1 w1 new:=
   ⟨_,_,_,rfl,λes=>by rw[Wm];simp,hS.turn hb hl Ch ho,hΛ.set Kw _,hf⟩
  right
  cases h0 with
  |cells _ _=>exact absurd ⟨_,_,_,rfl⟩ hc
  |_=>exact key
theorem Z4C(t:TypeId){m m' k k' v v':Value}(ht:Z6g P t=true)(hm:VRel ρ (Live V) m m')(hk:VRel ρ (Live V) k k')(hv:VRel ρ (Live V) v v')(hS:Sim ρ P.globals.size Fz V w)(hΛ:LoopsOk (ZE P fs Gs) V):
 Lax P fs Gs ρ Fz V w (NRel P fs (ZE P fs Gs) ρ) (do Instr.mapUpdate t m k v;Pure.pure Next.skip) (do Instr.mapUpdate t m' k' v';Pure.pure Next.skip):=by
 have run:=((Zb5 (P:=P) (fs:=fs) (Λ:=ZE P fs Gs) t ht hm hk) hS.good (λ_=>False)).run V w #[] hS hΛ (λ_ h=>h) (λ_ h=>h.elim);have Bn:∀new:Array Event,(#[]:Array Event)++new=new:=by simp
 refine Zck ?_;have e1:(do Instr.mapUpdate t m k v;Pure.pure Next.skip:Sem Next).run (Z6 P fs) V=((Z21 t m k).run (Z6 P fs) V).andThen λa V1=>((Z3p k v a).run (Z6 P fs) V1).andThen λ_ V2=> .ok Next.skip V2:=by
  rw[Z1J];simp only[UM,Sem.run_pure];cases (Z21 t m k).run (Z6 P fs) V<;>rfl
 have e2:(do Instr.mapUpdate t m' k' v';Pure.pure Next.skip:Sem Next).runT P w #[]=match (Z21 t m' k').runT P w #[] with
  |(.ok a w1,es)=>(match (Z3p k' v' a).runT P w1 es with|(.ok _ w2,es2)=>(.ok Next.skip w2,es2)|(.halt h w2,es2)=>(.halt h w2,es2))
  |(.halt h w1,es)=>(.halt h w1,es):=by
  rw[Z1J,bind_assoc];show((Z21 t m' k').bind λa=>(Z3p k' v' a).bind λ_=> .pure Next.skip).runT P w #[]=_;rw[Sem.runT_bind'];rcases(Z21 t m' k').runT P w #[] with⟨x,es⟩;cases x with
  |halt h w1=>rfl
  |ok a w1=>
   simp only[Sem.runT_bind'];rcases(Z3p k' v' a).runT P w1 es with⟨x,es2⟩;cases x<;>rfl
 rw[e1,e2];rcases run with⟨h,V1,hx,hb⟩|⟨V1,w1,new,Bi,hΛ1,hF,⟨a,b,L1,hx,hY,C8,Cy⟩|⟨v,v',hx,hY,hv⟩⟩
 ·rw[hx];exact .inl ⟨h,V1,rfl,hb⟩
 ·rw[Bn] at hY;rw[hx,hY];obtain⟨r,es,clock,x⟩:=a;obtain⟨r',es',clock',x'⟩:=b;obtain⟨h1,h2,h3,h4,h5⟩:=Cy;simp only at h1 h2 h3 h4 h5;subst h1 h4;have Ex:=λb hb=>hF.live b hb
  have Fk:=hk.up Ex;have Ke:=hv.up Ex;have h3:=h3.up C8;cases h5 with
  |none=>
   simp only[QM,Z3p];have ho:ORel ρ (Live V1) true (.map (es.push {key:=k,val:=v,born:=clock'}) (clock'+1)) (.map (es'.push {key:=k',val:=v',born:=clock'}) (clock'+1)):=by
    refine .map ?_;simp only[QH];exact h3.push ⟨Fk,Ke,rfl⟩
   rcases Z3s Bi.toSim0 hΛ1 (C8 _ h2) ho (λ_ h=>by cases h) (λ_ _ _ h=>by cases h) (Z6 P fs) P with⟨h,V2,hx,hb⟩|⟨V2,w2,new2,hx,hY,Ey,hΛ2,A0⟩
   ·rw[hx];exact .inl ⟨h,V2,rfl,hb⟩
   ·rw[hx,hY];exact .inr ⟨V2,w2,_,Ey,hΛ2,hF.trans hS.next A0,.inl ⟨_,_,Live V2,rfl,rfl,λ_ h=>h,.skip⟩⟩
  | @some i y y' hy=>
    simp only[QM,Z3p];have B6:VRel ρ (Live V1) (((es[i]?).map (·.key)).getD k) (((es'[i]?).map (·.key)).getD k'):=by
     rcases h3.get i with⟨e1,e2⟩|⟨e,e',e1,e2,he⟩
     ·rw[e1,e2];exact Fk
     ·rw[e1,e2];exact he.key
    generalize ((es[i]?).map (·.key)).getD k=old at B6;generalize ((es'[i]?).map (·.key)).getD k'=old' at B6;obtain⟨key,d,q1,_,q3⟩:=Z7b (Z6 P fs) old k V1;obtain⟨key',d',p1,p2,p3⟩:=Z7b P old' k' w1;have Dn:VRel ρ (Live V1) key key':=by
     rcases q3 with⟨q3,rfl⟩|⟨q3,rfl⟩
     ·rcases p3 with⟨_,rfl⟩|⟨p3,_⟩
      ·exact Fk
      ·rw[Z6j Bi.good 10000 B6 Fk q3] at p3;cases p3
     ·have hT:V1.tape V1.drawn=w1.tape w1.drawn:=Bi.tape 0;rcases p3 with⟨p3,rfl⟩|⟨p3,rfl⟩
      ·split
       ·exact Fk
       ·rw[<-sameBits_eq 10000 p3];exact B6
      ·rw[hT];split
       ·exact Fk
       ·exact B6
    have ho:ORel ρ (Live V1) true (.map (es.modify i λe=>{e with key:=key,val:=v}) clock') (.map (es'.modify i λe=>{e with key:=key',val:=v'}) clock'):= .map (h3.put i Dn Ke);simp only[UM,q1,QM];have e3:∀(o:Obj)(es2:Array Event),(do let key<-Instr.keyThatStays old' k';setObj (ρ r) (.map (es'.modify i λe=>{e with key:=key,val:=v'}) clock'):Sem Unit).runT P w1 es2=(setObj (ρ r) (.map (es'.modify i λe=>{e with key:=key',val:=v'}) clock')).runT P {w1 with drawn:=w1.drawn+d'} es2:=by
     intro o es2;show((Instr.keyThatStays old' k').bind _).runT P w1 es2=_;rw[Sem.runT_bind',p2 es2]
    rw[e3 (.map es clock') new];have Wo:Sim0 ρ P.globals.size Fz {V1 with drawn:=V1.drawn+d} {w1 with drawn:=w1.drawn+d'}:=Z7Z Bi.toSim0 d d';rcases Z3s Wo hΛ1 (C8 _ h2) ho (λ_ h=>by cases h) (λ_ _ _ h=>by cases h) (Z6 P fs) P with⟨h,V2,hx,hb⟩|⟨V2,w2,new2,hx,hY,Ey,hΛ2,A0⟩
    ·rw[hx];exact .inl ⟨h,V2,rfl,hb⟩
    ·rw[hx,hY];have hF3:=(hF.trans hS.next (Z7Y V1 w1 d d')).trans hS.next A0;rw[Array.append_empty] at hF3;exact .inr ⟨V2,w2,_,Ey,hΛ2,hF3,.inl ⟨_,_,Live V2,rfl,rfl,λ_ h=>h,.skip⟩⟩
 ·rw[Bn] at hY;rw[hx,hY];exact .inr ⟨V1,w1,new,Bi.toSim0,hΛ1,hF,.inr ⟨v,v',rfl,rfl,hv⟩⟩
theorem Z47(hF:Z3T P fs){e e':Operand->Value}(he:∀o,Zf Gs o=true->VRel ρ (Live V) (e o) (e' o))(Qw:∀f,e (.func f)= .func (.func f) #[] #[])(Ir:∀f,e' (.func f)= .func (.func f) #[] #[])(o:Oper)(ho:ZJ P Gs o.op=true)
 (hS:Sim ρ P.globals.size Fz V w)(hΛ:LoopsOk (ZE P fs Gs) V):Lax P fs Gs ρ Fz V w (NRel P fs (ZE P fs Gs) ρ) (execOp e o) (execOp e' o):=by
 by_cases hu:∃t m k x,o.op= .mapUpdate t m k x
 ·obtain⟨t,m,k,x,hu⟩:=hu;obtain⟨dst,op,type,pos,after,guard⟩:=o;simp only at hu;subst hu;simp only[ZJ,YG] at ho;exact Z4C t ho.1.1.1 (he _ ho.1.1.2) (he _ ho.1.2) (he _ ho.2) hS hΛ
 ·exact lax (Zb6 (L:=Live V) hF he Qw Ir o ho λt m k x h=>hu ⟨t,m,k,x,h⟩) hS hΛ
end
section
variable {P:Program}{fs:Array Func}{Gs:Nat->Bool}{V w:World}{bot:List Frame}
theorem Z7d{fr:Frame}{cs:List Frame}{w:World}(ht:fr.todo=[]):stepG.exec p mn true fr cs none w=Z2n p mn fr cs none w:=by
 obtain⟨fn,tmps,todo,defers,mode,kind,ro⟩:=fr;cases ht;cases ro<;>rfl
theorem Z7e{fr:Frame}{cs:List Frame}{w:World}(ht:fr.todo= .code .ret::k):stepG.exec p mn true fr cs none w=Z2n p mn fr cs (some .ret) w:=by
 obtain⟨fn,tmps,todo,defers,mode,kind,ro⟩:=fr;cases ht;cases ro<;>rfl
theorem Z5u{fr:Frame}{cs:List Frame}{w:World}{id:Nat}(ht:fr.todo= .code (.exit id)::k)(h:exitTo id k=none):stepG.exec p mn true fr cs none w=Z2n p mn fr cs (some (.exit id)) w:=by
 obtain⟨fn,tmps,todo,defers,mode,kind,ro⟩:=fr;cases ht;simp only[stepG.exec,h,Option.elim_none];cases ro<;>rfl
theorem Z48{fr:Frame}{cs:List Frame}{w:World}{id:Nat}(ht:fr.todo= .code (.exit id)::k)(h:exitTo id k=some r):stepG.exec p mn true fr cs none w= .go (G {fr with todo:=r} cs) w #[]:=by
 obtain⟨fn,tmps,todo,defers,mode,kind,ro⟩:=fr;cases ht;simp only[stepG.exec,h,Option.elim_some];rfl
theorem Zb7{G:Nat}(hS:Sim ρ G Fz V w):Sim ρ G Fz {V with drawn:=V.drawn+1} {w with drawn:=w.drawn+1}:=
 {obj:=hS.obj,inj:=hS.inj,fz:=hS.fz,low:=hS.low,gV:=hS.gV,gw:=hS.gw,tape:=λi=>by have:=hS.tape (1+i);simp only[<-TK] at this;exact this,next:=hS.next}
theorem Z3t{fr:Frame}{cs:List Frame}{w:World}{id:Nat}(ht:fr.todo= .code (.region id ops dr)::k):
 stepG.exec p mn true fr cs none w=if dr then .go (G {fr with todo:= .inRegion ops (Region.schedule (p.follows .mixedOrders) ops (w.tape w.drawn (.order fr.fn id)))::k} cs) {w with drawn:=w.drawn+1} #[]
  else .go (G {fr with todo:= .inRegion ops (List.range ops.size)::k} cs) w #[]:=by
 obtain⟨fn,tmps,todo,defers,mode,kind,ro⟩:=fr;cases ht;cases dr<;>rfl
theorem Z9h(Gl:Z3T P fs)(hG:∀g,Gs g=true->Live V g/\ρ g=g){mn mn':Bool}{fr fr':Frame}{cs cs':List Frame}(hS:Sim ρ P.globals.size Fz V w)(hΛ:LoopsOk (ZE P fs Gs) V)
 (hf:FrR P fs Gs ρ (Live V) fr fr')(hc:CsR P fs Gs ρ (Live V) bot bot' cs cs')(hb:cs=bot->fr.roundOf=none)(hm:fr.mode= .run):
 Bd P fs Gs ρ Fz V w fr.fn cs cs' (stepG (Z6 P fs) mn (G fr cs) V) (λt=>stepG P mn' (G fr' cs') (retape t w))\/Lk P fs Gs ρ Fz bot bot' V w (stepG (Z6 P fs) mn (G fr cs) V) (λt=>stepG P mn' (G fr' cs') (retape t w)):=by
 have E2:=λj hj=>Z7X (mn:=mn) (mn':=mn') hS hΛ hf hc hb j hj
 have Bb:=hf.eval hG;have D0:=fun(X Y:Sem Next)(hq:Lax P fs Gs ρ Fz V w (NRel P fs (ZE P fs Gs) ρ) X Y)=>Z45 (X:=X) (Y:=Y) hq hf hc hb
 have Hi:=hf.todo;have hm':fr'.mode= .run:=hf.mode.1.trans hm
 have Hw:∀{k k':List Item},ItsR P Gs ρ (Live V) k k'->Lk P fs Gs ρ Fz bot bot' V w (.go (G {fr with todo:=k} cs) V #[]) (λt=> .go (G {fr' with todo:=k'} cs') (retape t w) #[]):=
  λhk=>Z3r hS hΛ (hf.todoTo hk) hc (λe=>by simpa using hb e)
 have e1:stepG (Z6 P fs) mn (G fr cs) V=stepG.exec (Z6 P fs) mn true fr cs none V:=by simp only[G,stepG,hm]
 have e2:(λt=>stepG P mn' (G fr' cs') (retape t w))=λt=>stepG.exec P mn' true fr' cs' none (retape t w):=by simp only[G,stepG,hm']
 rw[e1,e2];generalize ht:fr.todo=todo at Hi;generalize ht':fr'.todo=todo' at Hi;cases Hi with
 |nil=>
  have:=E2 none (λc h=>by cases h);rw[Z7d ht];simp only[Z7d ht'];exact this
 |cons hi hk=>
  rename_i it it' k k';cases hi with
  |inBlock id=>simp only[stepG.exec,ht,ht'];exact .inr (Hw hk)
  |inLoop h=>simp only[stepG.exec,ht,ht'];exact .inr (Hw (.cons (.code h) (.cons (.inLoop h) hk)))
  |inScope h=>simp only[stepG.exec,ht,ht'];exact .inr (Hw hk)
  |inRangeFunc hl=>simp only[stepG.exec,ht,ht'];exact .inl (Z37 (λv h=>by cases h))
  |beginRound=>
   simp only[stepG.exec,ht,ht'];refine D0 _ _ (lax ?_ hS hΛ);have Kf:=hf.round;cases h1:fr.roundOf with
   |none=>exact Q.bindStuck
   |some l=>
    rw[h1] at Kf;obtain⟨hl,h2⟩:=Z9g Kf;rw[h2];exact(Z5s hl).bind λ_ _ _ _ _=>Q.pure .skip
  |endRangeFunc hl=>
   rename_i l;simp only[stepG.exec,ht,ht'];rcases ZcO (Z9d (fs:=fs) (P:=P) (Gs:=Gs) (ρ:=ρ) hl) hS hΛ with⟨h,V1,es,hx,Bp⟩|⟨V1,w1,new,es,Bi,hΛ1,hF,⟨v,v',L1,hx,hy,C8,hv⟩|⟨v,v',hx,hy,_⟩⟩
   ·left
    simp only[hx];cases h<;>first|exact Z0o|exact Bp.elim
   ·right
    obtain⟨rfl,Qy⟩:=hv;simp only[hx,GStep.after];refine⟨_,_,_,_,_,_,_,_,rfl,⟨hy.1,λt ht=>by simp only[hy.2 t ht];rfl⟩,Z2X ((hf.up hF.live).todoTo ?_),hc.up hF.live,λe=>by simpa using hb e,Bi.toSim0,hΛ1,hF.foot0.sub Z46⟩;have Fk:=hk.up hF.live;cases v' with
    |none=>exact Fk
    |some c=>exact .cons (.code (Qy c rfl)) Fk
   ·left;right
    simp only[hx,GStep.after]
    refine⟨fr.raise [{v,recovered:=false}],V1,_,fr'.raise [{v:=v',recovered:=false}],w1,_,rfl,by
     have hy:Sem.runT P (Instr.endLoop (ρ l)) (retape w.tape w) #[]=(Result.halt (Halt.panic v') w1,new):=hy;simp only[hy];rfl,Z0W _ _,Z38 _ _,?_,Bi.toSim0,hΛ1,hF.live⟩
    rw[Z0x,Z0x];exact hf.defers.up hF.live
  |inRegion ho=>
   rename_i ops td;cases td with
   |nil=>simp only[stepG.exec,ht,ht'];exact .inr (Hw hk)
   |cons i rest=>
    simp only[stepG.exec,ht,ht'];rw[Z6m hf.tmps ops];split
    ·simp only[stepG.oper,Frame.oper?,ht,ht'];cases La:ops[i]? with
     |none=>exact .inl Z0o
     |some o=>
      have Bq:ZJ P Gs o.op=true:=YL.1 ho o (SP.2 (Array.mem_of_getElem? La));have Kf:=hf.round;have hnd:∀c,o.op≠.defer c:=λc e=>by rw[e] at Bq;simp[ZJ] at Bq
      have key:=D0 _ _ (Z47 Gl Bb (λ_=>rfl) (λ_=>rfl) o Bq hS hΛ);dsimp only;split
      ·exact absurd ‹_› (hnd _)
      ·split
       ·exact absurd ‹_› (hnd _)
       ·exact key
    ·right
     have h1:=Z0w fr undef;exact Z3r hS hΛ (hf.finish .undef) hc (λe=>(Z0w _ _).trans (hb e))
  | @code c Db=>
    cases c with
    |skip=>simp only[stepG.exec,ht,ht'];exact .inr (Hw hk)
    |label l=>simp only[stepG.exec,ht,ht'];exact .inr (Hw hk)
    |ret=>
     have:=E2 (some .ret) (λc h=>by cases h;rfl);rw[Z7e ht];simp only[Z7e ht'];exact this
    |seq a b=>
     simp only[Zn,YG] at Db;simp only[stepG.exec,ht,ht'];exact .inr (Hw (.cons (.code Db.1) (.cons (.code Db.2) hk)))
    |cond c a b=>
     simp only[Zn,YG] at Db;simp only[stepG.exec,ht,ht'];have hv:=Bb c Db.1.1;generalize fr.eval c=v at hv;generalize fr'.eval c=v' at hv;cases hv with
     |bool t=>cases t<;>exact .inr (Hw (.cons (.code (by simp[Db])) hk))
     |_=>exact .inl Z0o
    |block id c=>simp only[stepG.exec,ht,ht'];exact .inr (Hw (.cons (.code Db) (.cons (.inBlock id) hk)))
    |loop c=>simp only[stepG.exec,ht,ht'];exact .inr (Hw (.cons (.code Db) (.cons (.inLoop Db) hk)))
    |scope c=>simp only[stepG.exec,ht,ht'];exact .inr (Hw (.cons (.code Db) (.cons (.inScope Db) hk)))
    |exit id=>
     rcases Z7V hk id with⟨h1,h2⟩|⟨r,r',h1,h2,hr⟩
     ·have:=E2 (some (.exit id)) (λc h=>by cases h;rfl);rw[Z5u ht h1];simp only[Z5u ht' h2];exact this
     ·rw[Z48 ht h1];simp only[Z48 ht' h2];exact .inr (Hw hr)
    |region id ops dr=>
     rw[Z3t ht];simp only[Z3t ht'];cases dr with
     |false=>exact .inr (Hw (.cons (.inRegion Db) hk))
     |true=>
      right
      simp only[XQ];have et:w.tape w.drawn (.order fr'.fn id)=V.tape V.drawn (.order fr.fn id):=(by have:=hS.tape 0;simp only[RV] at this;rw[hf.fn,this]);have hf0:Foot0 ρ Fz V w {V with drawn:=V.drawn+1} {w with drawn:=w.drawn+1} #[]:=⟨λ_ h=>h,λ_ h=> .inl h,XB _,XB _,λ_ _ _=>rfl,λe he=>by simp at he,rfl,rfl,rfl,Nat.le_succ _,λ_ _ _ h _=>⟨h,rfl⟩⟩;refine⟨_,_,_,_,{fr' with todo:= .inRegion ops (Region.schedule (P.follows .mixedOrders) ops (V.tape V.drawn (.order fr.fn id)))::k'},cs',{w with drawn:=w.drawn+1},#[],rfl,⟨⟨Nat.le_succ _,rfl⟩,λt ht=> ?_⟩,Z2X (hf.todoTo (.cons (.inRegion Db) hk)),hc,λe=>by simpa using hb e,(Zb7 hS).toSim0,hΛ,hf0⟩;have e:t w.drawn=w.tape w.drawn:=ht _ (XB _) (Nat.lt_succ_self _);show GStep.go (G {fr' with todo:= .inRegion ops (Region.schedule (P.follows .mixedOrders) ops (t w.drawn (.order fr'.fn id)))::k'} cs') {retape t w with drawn:=w.drawn+1} #[]=_;rw[e,et];rfl
    |goto l=>simp[Zn] at Db
    |refuse s=>simp[Zn] at Db
    |rangeFunc f ps as bd=>
     simp only[Zn,YG] at Db;simp only[stepG.exec,ht,ht']
     have hq:Q P fs (ZE P fs Gs) P.globals.size ρ (Live V) (λL (x y:Nat×List Deferred)=>y.1=ρ x.1/\L x.1/\DsRel ρ L x.2 y.2)
      (Instr.enterLoop fr.fn fr.tmps ps as bd fr.roundOf) (Instr.enterLoop fr'.fn fr'.tmps ps as bd fr'.roundOf):=by
      rw[hf.fn];exact Z6n hf.tmps hf.round hf.tm Db.1.2 Db.2
     rcases ZcO hq hS hΛ with⟨h,V1,es,hx,Bp⟩|⟨V1,w1,new,es,Bi,hΛ1,hF,⟨a,b,L1,hx,hy,C8,Cy⟩|⟨v,v',hx,_⟩⟩
     ·left;simp only[hx,GStep.after];exact Z0o
     ·obtain⟨l,mk⟩:=a;obtain⟨l',mk'⟩:=b;obtain⟨h1,h2,h3⟩:=Cy;simp only at h1 h2 h3;subst h1;simp only[hx];have D8:=hf.up hF.live
      have Lb:FrR P fs Gs ρ (Live V1) {fr with todo:= .inRangeFunc l::k,defers:=mk++fr.defers} {fr' with todo:= .inRangeFunc (ρ l)::k',defers:=mk'++fr'.defers}:=
       ⟨D8.fn,D8.tm,D8.tmps,.cons (.inRangeFunc (C8 _ h2)) (hk.up hF.live),(h3.up C8).append D8.defers,D8.mode,D8.kind,D8.round⟩
      have Wp:=Lb.eval (λg hg=>⟨hF.live _ (hG g hg).1,(hG g hg).2⟩)
      have Ci:Q P fs (ZE P fs Gs) P.globals.size ρ (Live V1) (NRel P fs (ZE P fs Gs) ρ)
       (do let d<-resolve (Frame.eval {fr with todo:= .inRangeFunc l::k,defers:=mk++fr.defers}) {callee:= .value f,args:= #[.const (.func (.yield l) #[] #[])],argTypes:= #[]} 0;invoke d.target d.args)
       (do let d<-resolve (Frame.eval {fr' with todo:= .inRangeFunc (ρ l)::k',defers:=mk'++fr'.defers}) {callee:= .value f,args:= #[.const (.func (.yield (ρ l)) #[] #[])],argTypes:= #[]} 0;invoke d.target d.args):=by
       have Wq:=Wp f Db.1.1;have ha:AR ρ (Live V1) #[.func (.yield l) #[] #[]] #[.func (.yield (ρ l)) #[] #[]]:=AR.one (.yield (C8 _ h2) rfl (λi hi=>absurd hi (by simp)) rfl (λi hi=>absurd hi (by simp)));have em:∀(e:Frame)(v:Value),Array.map e.eval #[.const v]= #[v]:=λe v=>by simp[Frame.eval]
       unfold resolve;dsimp only;rw[em,em];generalize Frame.eval {fr with todo:= .inRangeFunc l::k,defers:=mk++fr.defers} f=v at Wq;generalize Frame.eval {fr' with todo:= .inRangeFunc (ρ l)::k',defers:=mk'++fr'.defers} f=v' at Wq;cases Wq with
       |func Po a1 a2 c1 c2=>exact Z2I Gl _ (λh=>by rw[Po] at h;cases h) ((AR.append ⟨a1,a2⟩ ha).append ⟨c1,c2⟩)
       |yield hl a1 a2 c1 c2=>exact Z99 _ hl (AR.append ⟨a1,a2⟩ ha)
       |nilFunc=>exact Z02 .nilDeref rfl
       |meth _=>exact Z5r Gl _
       |_=>exact Q.stuck
      rcases Z45 (lax Ci Bi hΛ1) Lb (hc.up hF.live) (λe=>by simpa using hb e) with Bp|⟨fr1,cs1,V2,es1,fr1',cs1',w2,es2,q1,q2,q3,q4,q5,q6,q7,q8⟩
      ·left
       rcases Bp with⟨o,V2,es2,q1,q2⟩|⟨fr1,V2,es1,fr1',w2,es2,q1,q2,q3,q4,q5,q6,q7,q8⟩
       ·rw[q1];exact Z37 q2
       ·right
        rw[q1];have Bm:=hy.2 w.tape (λ_ _ _=>rfl);have ew:retape w.tape w1=w1:=(by unfold retape;rw[<-hy.1.2]);rw[ew] at Bm;dsimp only at q2;rw[Z04] at q2;rw[<-hF.tape] at Bm;refine⟨fr1,V2,_,fr1',w2,_,rfl,by rw[<-hF.tape];simp only[Bm];rw[q2];rfl,q3,q4,q5,q6,q7,λb hb=>q8 b (hF.live b hb)⟩
      ·right
       rw[q1];exact⟨fr1,cs1,V2,_,fr1',cs1',w2,_,rfl,⟨hy.1.trans q2.1,λt ht=>by simp only[hy.2 t (ht.left q2.1),q2.2 t (ht.right hy.1)];rfl⟩,q3,q4,q5,q6,q7,(hF.foot0.sub λe he=>Z2m P _ _ e he).trans hS.next q8⟩
     ·left;simp only[hx,GStep.after];exact Z0o
end
section
variable {P:Program}{fs:Array Func}{Gs:Nat->Bool}{V w:World}{bot:List Frame}
theorem CsR.bot_iff{cs:List Frame}(h:CsR P fs Gs ρ L bot bot' cs cs')(e:cs=bot):cs'=bot':=by
 cases h with
 |nil=>rfl
 |cons _ _ h=>have:=h.length;rw[<-e] at this;simp at this;omega
theorem Z6o{fr:Frame}{cs:List Frame}(hS:Sim ρ P.globals.size Fz V w)(hΛ:LoopsOk (ZE P fs Gs) V)
 (hf:FrR P fs Gs ρ (Live V) fr fr')(hc:CsR P fs Gs ρ (Live V) bot bot' cs cs')(hb:cs=bot->fr.roundOf=none)(hm:fr.mode= .returning)(A9:cs=bot->fr.defers≠[]):
 Bd P fs Gs ρ Fz V w fr.fn cs cs' (stepG (Z6 P fs) mn (G fr cs) V) (λt=>stepG P mn' (G fr' cs') (retape t w))\/Lk P fs Gs ρ Fz bot bot' V w (stepG (Z6 P fs) mn (G fr cs) V) (λt=>stepG P mn' (G fr' cs') (retape t w)):=by
 have hm':fr'.mode= .returning:=hf.mode.1.trans hm;have e1:stepG (Z6 P fs) mn (G fr cs) V=unwind (Z6 P fs) mn fr cs none V:=by simp only[G,stepG,hm]
 have e2:(λt=>stepG P mn' (G fr' cs') (retape t w))=λt=>unwind P mn' fr' cs' none (retape t w):=by simp only[G,stepG,hm']
 rw[e1,e2];have hd:=hf.defers;generalize Eo:fr.defers=ds at hd;generalize Qz:fr'.defers=ds' at hd;cases hd with
 |nil=>
  obtain⟨fn,c,h1,h2,h3,h4⟩:=hf.tm;have h1':(Z6 P fs).funcs[fr.fn]? =some fn:=h1;have h2':P.funcs[fr'.fn]? =some fn:=by rw[hf.fn];exact h2
  simp only[unwind,Eo,Qz,hm,hm',h1',h2'];rcases ZcO (Z9f (fs:=fs) (P:=P) (Gs:=Gs) (ρ:=ρ) fn hf.tmps) hS hΛ with⟨h,V1,es,hx,_⟩|⟨V1,w1,new,es,Bi,hΛ1,hF,⟨v,v',L1,hx,hy,C8,hv⟩|⟨v,v',hx,_⟩⟩
  ·left
   simp only[hx];cases h<;>exact Z0o
  ·right
   simp only[hx];exact Z5t (mn':=mn') (es2:=seen P fr'.fn new) Bi.toSim0 hΛ1 (hF.foot0.sub λe he=>Z2m P _ _ e he) hy.1 (λt ht=>by simp only[hy.2 t ht]) hf.kind (hc.up hF.live) (λe=>A9 e Eo) (hv.up C8)
  ·left;simp only[hx];exact Z0o
 | @cons r ds ds' hr R0=>
   simp only[unwind,Eo,Qz];rcases ZcO (Z1f (fs:=fs) (P:=P) (Gs:=Gs) (ρ:=ρ) hr) hS hΛ with⟨h,V1,es,hx,_⟩|⟨V1,w1,new,es,Bi,hΛ1,hF,⟨v,v',L1,hx,hy,C8,hv⟩|⟨v,v',hx,_⟩⟩
   ·left;simp only[hx];exact Z0o
   ·right
    simp only[hx,GStep.after];have D8:=hf.up hF.live;exact⟨_,_,_,_,{fr' with defers:=v'++ds'},_,_,seen P fr'.fn new++ #[],rfl,⟨hy.1,λt ht=>by simp only[hy.2 t ht];rfl⟩,Z2X ⟨D8.fn,D8.tm,D8.tmps,D8.todo,(hv.up C8).append (R0.up hF.live),D8.mode,D8.kind,D8.round⟩,hc.up hF.live,λe=>hb e,Bi.toSim0,hΛ1,hF.foot0.sub Z46⟩
   ·left;simp only[hx];exact Z0o
theorem Z3u(Gl:Z3T P fs)(hG:∀g,Gs g=true->Live V g/\ρ g=g){mn mn':Bool}{fr fr':Frame}{cs cs':List Frame}(hS:Sim ρ P.globals.size Fz V w)(hΛ:LoopsOk (ZE P fs Gs) V)
 (hf:FrR P fs Gs ρ (Live V) fr fr')(hc:CsR P fs Gs ρ (Live V) bot bot' cs cs')(hb:cs=bot->fr.roundOf=none):
 Bd P fs Gs ρ Fz V w fr.fn cs cs' (stepG (Z6 P fs) mn (G fr cs) V) (λt=>stepG P mn' (G fr' cs') (retape t w))\/Lk P fs Gs ρ Fz bot bot' V w (stepG (Z6 P fs) mn (G fr cs) V) (λt=>stepG P mn' (G fr' cs') (retape t w))\/
  (cs=bot/\cs'=bot'/\fr.mode= .returning/\fr.defers=[]):=by
 rcases hf.mode.2 with hm|hm
 ·exact(Z9h Gl hG hS hΛ hf hc hb hm).imp_right .inl
 ·by_cases A9:cs=bot->fr.defers≠[]
  ·exact(Z6o hS hΛ hf hc hb hm A9).imp_right .inl
  ·right;right
   have:cs=bot/\fr.defers=[]:=by
    by_cases h:cs=bot
    ·exact⟨h,VS λh'=>A9 λ_=>h'⟩
    ·exact absurd (λe=>absurd e h) A9
   exact⟨this.1,hc.bot_iff this.1,hm,this.2⟩
end
def trap:Frame:={fn:=0,tmps:= #[],todo:=[.code (.refuse "")],defers:=[{target:= .nil,args:= #[]}],mode:= .run,kind:= .normal}
structure Self(P:Program)(fs:Array Func)(Gs:Nat->Bool)(fr:Frame)(cs:List Frame)(V:World):Prop where
 sim:Sim id P.globals.size (λ_=>False) V V
 loops:LoopsOk (ZE (Z6 P fs) fs Gs) V
 fro:FrR (Z6 P fs) fs Gs id (Live V) fr fr
 cso:CsR (Z6 P fs) fs Gs id (Live V) [trap] [trap] cs cs
 hb:cs=[trap]->fr.roundOf=none
structure Solo(P:Program)(fs:Array Func)(Gs:Nat->Bool):Prop where
 ok:Z3T (Z6 P fs) fs
 all:∀f,Ent (Z6 P fs) fs f->Tm (Z6 P fs) fs Gs f
inductive Halts(P:Program)(E:Frame->List Frame->World->Prop):Frame->List Frame->World->Prop
 |done {fr cs V} (t):E fr cs (retape t V)->Halts P E fr cs V
 |step {fr cs V} (nf:(Nat->Question->Nat)->Frame) (nc:(Nat->Question->Nat)->List Frame) (nV:(Nat->Question->Nat)->World) (ne:(Nat->Question->Nat)->Array Event):
   (∀t,stepG P true (G fr cs) (retape t V)= .go (G (nf t) (nc t)) (nV t) (ne t))->(∀t,Halts P E (nf t) (nc t) (nV t))->Halts P E fr cs V
section
variable {P:Program}{fs:Array Func}{Gs:Nat->Bool}{fr:Frame}{cs:List Frame}{V:World}
theorem Z16{a:Frame}{c:List Frame}(h:G a c=G b d):a=b/\c=d:=by cases h;exact⟨rfl,rfl⟩
theorem Sim0.self{P:Program}{V:World}(h:Sim0 id P.globals.size Fz V V):Sim id P.globals.size Fz V V:={toSim0:=h,tape:=λ_=>rfl}
theorem Z80(h:Sim id P.globals.size (λ_=>False) V V)(t):Sim id P.globals.size (λ_=>False) (retape t V) (retape t V):=
 {obj:=h.obj,inj:=h.inj,fz:=h.fz,low:=h.low,gV:=h.gV,gw:=h.gw,tape:=λ_=>rfl,next:=h.next}
theorem Self.retape(h:Self P fs Gs fr cs V)(t):Self P fs Gs fr cs (retape t V):=⟨Z80 h.sim t,h.loops,h.fro,h.cso,h.hb⟩
theorem Z9i{P:Program}{a:Frame}(h:Top P fs Gs ρ L a b)(Ez:∀f,Ent P fs f->Tm P fs Gs f):FrR P fs Gs ρ L a b:=by
 cases h with
 |own h=>exact h
 |other h1 h2 h3 h4=>exact absurd (Ez _ h2) h1
theorem Z9j{d:Deferred}(h:DsRel ρ L (d::ds) y):∃r ds',d={target:= .collected r,args:= #[]}/\L r/\y={target:= .collected (ρ r),args:= #[]}::ds'/\DsRel ρ L ds ds':=by
 cases h with
 |cons h1 h2=>exact⟨_,_,rfl,h1,rfl,h2⟩
structure Pan(P:Program)(fs:Array Func)(Gs:Nat->Bool)(fr:Frame)(cs:List Frame)(V:World):Prop where
 sim:Sim id P.globals.size (λ_=>False) V V
 loops:LoopsOk (ZE (Z6 P fs) fs Gs) V
 tm:Tm (Z6 P fs) fs Gs fr.fn
 defers:DsRel id (Live V) fr.defers fr.defers
 cso:CsR (Z6 P fs) fs Gs id (Live V) [trap] [trap] cs cs
 mode:∃c,fr.mode= .panicking c
theorem Z1i(hs:Solo P fs Gs)(hG:∀g,Gs g=true->Live V g)(h:Self P fs Gs fr cs V):
 ((∃o V1 es,stepG (Z6 P fs) true (G fr cs) V= .ended o V1 es)\/∃fr1 V1 es,stepG (Z6 P fs) true (G fr cs) V= .go (G fr1 cs) V1 es/\Pan P fs Gs fr1 cs V1)\/
 (∃fr1 cs1 V1 es,stepG (Z6 P fs) true (G fr cs) V= .go (G fr1 cs1) V1 es/\Self P fs Gs fr1 cs1 V1/\(∀b,Live V b->Live V1 b)/\Fwd V V1/\
   ∀t,Agr V V1 t->stepG (Z6 P fs) true (G fr cs) (Nk.retape t V)= .go (G fr1 cs1) (Nk.retape t V1) es)\/
 (cs=[trap]/\fr.mode= .returning/\fr.defers=[]):=by
 have key:=Z3u (P:=Z6 P fs) (fs:=fs) (Gs:=Gs) (ρ:=id) (Fz:=λ_=>False) (bot:=[trap]) (bot':=[trap]) hs.ok (λg hg=>⟨hG g hg,rfl⟩) (mn:=true) (mn':=true) h.sim h.loops h.fro h.cso h.hb;rcases key with(⟨o,V1,es,e1,_⟩|⟨fr1,V1,es1,fr1',w1,es2,e1,e2,hm,hfn,hd,hS,hΛ,Kg⟩)|⟨fr1,cs1,V1,es1,fr1',cs1',w1,es2,e1,⟨hw,e2⟩,ht,hc,hb,hS,hΛ,hF⟩|key
 ·exact .inl (.inl ⟨o,V1,es,e1⟩)
 ·left;right
  have e1:stepG (Z6 P fs) true (G fr cs) V= .go (G fr1 cs) V1 es1:=e1;have e2:stepG (Z6 P fs) true (G fr cs) V= .go (G fr1' cs) w1 es2:=e2;rw[e1] at e2;injection e2 with g1 g2 g3;obtain⟨rfl,_⟩:=Z16 g1;subst g2;exact⟨fr1,V1,es1,e1,hS.self,hΛ,by rw[hfn];exact h.fro.tm,hd,h.cso.up Kg,hm⟩
 ·right;left
  have e1:stepG (Z6 P fs) true (G fr cs) V= .go (G fr1 cs1) V1 es1:=e1;have e3:=e2 V.tape (λ_ _ _=>rfl);have e4:Nk.retape V.tape w1=w1:=by unfold Nk.retape;rw[<-hw.2]
  simp only[Z04] at e3;rw[e4] at e3;rw[e1] at e3;injection e3 with g1 g2 g3;obtain⟨rfl,rfl⟩:=Z16 g1;subst g2;subst g3;exact⟨fr1,cs1,V1,es1,e1,⟨hS.self,hΛ,Z9i ht.1 hs.all,hc,hb⟩,hF.live,hw,e2⟩
 ·exact .inr (.inr ⟨key.1,key.2.2.1,key.2.2.2⟩)
theorem Halts.of_step(h:∀t,∃fr1 cs1 V1 es,stepG P true (G fr cs) (Nk.retape t V)= .go (G fr1 cs1) V1 es/\Halts P E fr1 cs1 V1):Halts P E fr cs V:=by
 refine .step (λt=>(h t).choose) (λt=>(h t).choose_spec.choose) (λt=>(h t).choose_spec.choose_spec.choose) (λt=>(h t).choose_spec.choose_spec.choose_spec.choose) (λt=> ?_) (λt=> ?_)
 ·exact(h t).choose_spec.choose_spec.choose_spec.choose_spec.1
 ·exact(h t).choose_spec.choose_spec.choose_spec.choose_spec.2
theorem Z0f{P:Program}(h:runN P (n+1) m= .next m'):∃m1,step P m= .next m1/\runN P n m1= .next m':=by
 simp only[runN] at h;split at h
 ·exact⟨_,‹_›,h⟩
 ·rename_i hx;exact absurd h (hx m')
theorem Z4D{P:Program}{fr:Frame}{cs:List Frame}{w:World}{o:Outcome}(h:stepG P true (G fr cs) w= .ended o w1 es):step P (lone fr cs w)= .ended o w1:=
 step_lone_ended (by show(stepG P true (G fr cs) w).bare=_;rw[h];rfl)
theorem Z0h{P:Program}{fr:Frame}{cs:List Frame}{w:World}(h:stepG P true (G fr cs) w= .go (G fr1 cs1) w1 es):step P (lone fr cs w)= .next (lone fr1 cs1 w1):=
 step_lone_go (by show(stepG P true (G fr cs) w).bare=_;rw[h];rfl)
theorem Z0p{P:Program}{fr:Frame}{cs:List Frame}{w w':World}{o:Outcome}(h:stepG P true (G fr cs) w= .ended o w1 es)(hn:runN P (n+1) (lone fr cs w)= .next (lone fr' cs' w')):False:=by
 obtain⟨m1,h1,_⟩:=Z0f hn;rw[Z4D h] at h1;cases h1
theorem Z18{fr:Frame}{cs:List Frame}{w w':World}(h:lone fr cs w=lone fr' cs' w'):fr=fr'/\cs=cs'/\w=w':=by
 unfold lone at h;simp only[Machine.mk.injEq,Array.mk.injEq,SH,Goroutine.mk.injEq] at h;exact⟨h.2.1.1.1,h.2.1.1.2.1,h.1⟩
theorem dead_pan:∀(n:Nat)(fr:Frame)(cs:List Frame)(V:World),Pan P fs Gs fr cs V->∀{fr':Frame}{cs':List Frame}{V':World},runN (Z6 P fs) n (lone fr cs V)= .next (lone fr' cs' V')->∃c,fr'.mode= .panicking c:=by
 intro n
 induction n with
 |zero=>
  intro fr cs V h fr' cs' V' hn;simp only[runN,VV] at hn;obtain⟨rfl,_,_⟩:=Z18 hn;exact h.mode
 |succ n ih=>
  intro fr cs V h fr' cs' V' hn;obtain⟨c,hm⟩:=h.mode;have e1:stepG (Z6 P fs) true (G fr cs) V=unwind (Z6 P fs) true fr cs none V:=by simp only[G,stepG,hm]
  obtain⟨m1,h1,h2⟩:=Z0f hn;have hd:=h.defers;cases Eo:fr.defers with
  |nil=>
   obtain⟨fn,code,t1,t2,t3,t4⟩:=h.tm;have Is:fr.catches (Z6 P fs)=false:=by
    unfold Frame.catches;rw[t2]
   cases hc:h.cso with
   |nil=>
    have e2:stepG (Z6 P fs) true (G fr [trap]) V= .go (G (trap.raise c) []) V:=by
     rw[e1];simp only[unwind,Eo,hm,Is,YR,XZ];rfl
    rw[Z0h e2] at h1;cases h1;cases n with
    |zero=>
     simp only[runN,VV] at h2;obtain⟨rfl,_,_⟩:=Z18 h2;exact Z0W _ _
    |succ n=>
     have e3:∃o es,stepG (Z6 P fs) true (G (trap.raise c) []) V= .ended o V es:=⟨_,_,rfl⟩;obtain⟨o,es,e3⟩:=e3;exact(Z0p e3 h2).elim
   |cons hf hb Ag=>
    rename_i f cs0;have e2:stepG (Z6 P fs) true (G fr (f::cs0)) V= .go (G (f.raise c) cs0) V:=by
     rw[e1];simp only[unwind,Eo,hm,Is,YR,XZ];rfl
    rw[Z0h e2] at h1;cases h1;exact ih _ _ _ ⟨h.sim,h.loops,by rw[Z38];exact hf.tm,by rw[Z0x];exact hf.defers,Ag,Z0W _ _⟩ h2
  |cons d ds=>
   rw[Eo] at hd;obtain⟨r,ds',rfl,hr,e,R0⟩:=Z9j hd;simp only[id,SH,true_and] at e;subst e;rcases ZcO (P:=Z6 P fs) (Z1f (fs:=fs) (P:=Z6 P fs) (Gs:=Gs) (ρ:=id) hr) h.sim h.loops with⟨hh,V1,es,hx,_⟩|⟨V1,w1,new,es,Bi,hΛ1,hF,⟨v,v',L1,hx,hy,C8,hv⟩|⟨v,v',hx,_⟩⟩
   ·have e2:stepG (Z6 P fs) true (G fr cs) V= .ended (.stuck "the deferred calls of a range-over-func loop have been taken" (fr.pos (Z6 P fs))) V1 (seen (Z6 P fs) fr.fn es++ #[]):=by
     rw[e1];have hx:(Instr.takeDeferred r).runT (Z6 P fs) V #[]=_:=hx;simp only[unwind,Eo,hx];rfl
    exact(Z0p e2 hn).elim
   ·have hx:(Instr.takeDeferred r).runT (Z6 P fs) V #[]=(.ok v V1,es):=hx;have Bm:=hy.2 V.tape (λ_ _ _=>rfl);have Bm:(Instr.takeDeferred r).runT (Z6 P fs) V #[]=(.ok v' (retape V.tape w1),new):=Bm;rw[hx] at Bm;injection Bm with q1 q2;injection q1 with q3 q4;subst q3;have e4:Nk.retape V.tape w1=w1:=(by unfold Nk.retape;rw[<-hy.1.2]);rw[e4] at q4;subst q4;have e2:stepG (Z6 P fs) true (G fr cs) V= .go (G {fr with defers:=v++ds} cs) V1 (seen (Z6 P fs) fr.fn es++ #[]):=by
     rw[e1];simp only[unwind,Eo,hx];rfl
    rw[Z0h e2] at h1;cases h1;exact ih {fr with defers:=v++ds} cs V1 ⟨Bi,hΛ1,h.tm,(hv.up C8).append (R0.up hF.live),h.cso.up hF.live,⟨c,hm⟩⟩ h2
   ·have e2:stepG (Z6 P fs) true (G fr cs) V= .ended (.stuck "the deferred calls of a range-over-func loop have been taken" (fr.pos (Z6 P fs))) V1 (seen (Z6 P fs) fr.fn es++ #[]):=by
     rw[e1];have hx:(Instr.takeDeferred r).runT (Z6 P fs) V #[]=_:=hx;simp only[unwind,Eo,hx];rfl
    exact(Z0p e2 hn).elim
structure IsEnd(E:Frame->List Frame->World->Prop):Prop where
 at_:∀fr cs V,E fr cs V->cs=[trap]/\fr.mode= .returning
 defers:∀fr cs V,E fr cs V->fr.defers=[]
 tape:∀fr cs V t,E fr cs V->E fr cs (Nk.retape t V)
theorem Z7f(hE:IsEnd E)(h:Self P fs Gs fr [trap] V)(hm:fr.mode= .returning)(hd:fr.defers=[]){n:Nat}{fr':Frame}{cs':List Frame}{V':World}
 (hn:runN (Z6 P fs) (n+1) (lone fr [trap] V)= .next (lone fr' cs' V'))(F0:E fr' cs' V'):False:=by
 obtain⟨m1,h1,h2⟩:=Z0f hn;obtain⟨fn,code,t1,t2,t3,t4⟩:=h.fro.tm;have e1:stepG (Z6 P fs) true (G fr [trap]) V=unwind (Z6 P fs) true fr [trap] none V:=by simp only[G,stepG,hm]
 obtain⟨hc,hr⟩:=hE.at_ _ _ _ F0;cases hx:(results fn fr.tmps).runT (Z6 P fs) V #[] with
 |mk r es=>
  cases r with
  |halt hh V1=>
   have e2:∃o es',stepG (Z6 P fs) true (G fr [trap]) V= .ended o V1 es':=by
    rw[e1];simp only[unwind,hd,hm,t2,hx];cases hh<;>exact⟨_,_,rfl⟩
   obtain⟨o,es',e2⟩:=e2;exact Z0p e2 hn
  |ok v V1=>
   have e2:stepG (Z6 P fs) true (G fr [trap]) V= .go (G (trap.finish v) []) V1 (seen (Z6 P fs) fr.fn es++ #[]):=by
    rw[e1];simp only[unwind,hd,hm,t2,hx,doReturn,h.fro.kind.1];rfl
   rw[Z0h e2] at h1;cases h1;cases n with
   |zero=>
    simp only[runN,VV] at h2;obtain⟨_,rfl,_⟩:=Z18 h2;cases hc
   |succ n=>
    have e3:∃o es,stepG (Z6 P fs) true (G (trap.finish v) []) V1= .ended o V1 es:=⟨_,_,rfl⟩;obtain⟨o,es,e3⟩:=e3;exact Z0p e3 h2
theorem Z7g(hE:IsEnd E)(h:(∃o V1 es,stepG (Z6 P fs) true (G fr cs) V= .ended o V1 es)\/∃fr1 V1 es,stepG (Z6 P fs) true (G fr cs) V= .go (G fr1 cs) V1 es/\Pan P fs Gs fr1 cs V1)
 {n:Nat}{fr':Frame}{cs':List Frame}{V':World}(hn:runN (Z6 P fs) (n+1) (lone fr cs V)= .next (lone fr' cs' V'))(F0:E fr' cs' V'):False:=by
 rcases h with⟨o,V1,es,e⟩|⟨fr1,V1,es,e,hp⟩
 ·exact Z0p e hn
 ·obtain⟨m1,h1,h2⟩:=Z0f hn;rw[Z0h e] at h1;cases h1;obtain⟨c,hc⟩:=dead_pan n _ _ _ hp h2;have:=(hE.at_ _ _ _ F0).2;rw[hc] at this;cases this
def ZdQ(P:Program)(E:Frame->List Frame->World->Prop)(fr:Frame)(cs:List Frame)(V:World):Prop:=
 ∀t,∃n fr' cs' V',runN P n (lone fr cs (Nk.retape t V))= .next (lone fr' cs' V')/\E fr' cs' V'
theorem run_local(hs:Solo P fs Gs)(hE:IsEnd E):∀(n:Nat)(fr:Frame)(cs:List Frame)(V:World),(∀g,Gs g=true->Live V g)->Self P fs Gs fr cs V->∀{fr':Frame}{cs':List Frame}{V':World},
 runN (Z6 P fs) n (lone fr cs V)= .next (lone fr' cs' V')->E fr' cs' V'->Fwd V V'/\∀t,Agr V V' t->runN (Z6 P fs) n (lone fr cs (Nk.retape t V))= .next (lone fr' cs' (Nk.retape t V')):=by
 intro n
 induction n with
 |zero=>
  intro fr cs V _ _ fr' cs' V' hn _;simp only[runN,VV] at hn;obtain⟨rfl,rfl,rfl⟩:=Z18 hn;exact⟨Fwd.refl _,λt _=>rfl⟩
 |succ n ih=>
  intro fr cs V hG h fr' cs' V' hn F0;rcases Z1i hs hG h with hb|⟨fr1,cs1,V1,es,e,h1,hl,hw,Lc⟩|⟨rfl,hm,hd⟩
  ·exact(Z7g hE hb hn F0).elim
  ·obtain⟨m1,q1,q2⟩:=Z0f hn;rw[Z0h e] at q1;cases q1;obtain⟨i1,i2⟩:=ih fr1 cs1 V1 (λg hg=>hl g (hG g hg)) h1 q2 F0;refine⟨hw.trans i1,λt ht=> ?_⟩;simp only[runN];rw[Z0h (Lc t (ht.left i1))];exact i2 t (ht.right hw)
  ·exact(Z7f hE h hm hd hn F0).elim
theorem Z4E(t t':Nat->Question->Nat)(V:World):Nk.retape t (Nk.retape t' V)=Nk.retape t V:=rfl
theorem Z81(hs:Solo P fs Gs)(hE:IsEnd E)(hG:∀g,Gs g=true->Live V g)(h:Self P fs Gs fr cs V)(hT:ZdQ (Z6 P fs) E fr cs V)(hn:¬Halts (Z6 P fs) E fr cs V):
 ∃t fr1 cs1 V1 es,stepG (Z6 P fs) true (G fr cs) (Nk.retape t V)= .go (G fr1 cs1) V1 es/\Self P fs Gs fr1 cs1 V1/\(∀g,Gs g=true->Live V1 g)/\V.drawn<=V1.drawn/\V1.tape=t/\
  (∀t',(∀i,V.drawn<=i->i<V1.drawn->t' i=t i)->stepG (Z6 P fs) true (G fr cs) (Nk.retape t' V)= .go (G fr1 cs1) (Nk.retape t' V1) es)/\
  ZdQ (Z6 P fs) E fr1 cs1 V1/\¬Halts (Z6 P fs) E fr1 cs1 V1:=by
 have Be:∀t,¬E fr cs (Nk.retape t V):=λt he=>hn (.done t he)
 have h1:∃t,∀fr1 cs1 V1 es,stepG (Z6 P fs) true (G fr cs) (Nk.retape t V)= .go (G fr1 cs1) V1 es->¬Halts (Z6 P fs) E fr1 cs1 V1:=by
  apply VS;intro hc;refine hn (.of_step λt=> ?_);apply VS;intro E3;exact hc ⟨t,λfr1 cs1 V1 es e hh=>E3 ⟨fr1,cs1,V1,es,e,hh⟩⟩
 obtain⟨t,h1⟩:=h1;have later:∀t,∃n fr' cs' V',runN (Z6 P fs) (n+1) (lone fr cs (Nk.retape t V))= .next (lone fr' cs' V')/\E fr' cs' V':=by
  intro t;obtain⟨n,fr',cs',V',hr,he⟩:=hT t;cases n with
  |zero=>
   simp only[runN,VV] at hr;obtain⟨rfl,rfl,rfl⟩:=Z18 hr;exact absurd he (Be t)
  |succ n=>exact⟨n,fr',cs',V',hr,he⟩
 obtain⟨n,fr',cs',V',hr,he⟩:=later t;rcases Z1i hs (V:=Nk.retape t V) hG (h.retape t) with hb|⟨fr1,cs1,V1,es,e,Bi,hl,hw,Lc⟩|⟨rfl,hm,hd⟩
 ·exact(Z7g hE hb hr he).elim
 ·refine⟨t,fr1,cs1,V1,es,e,Bi,λg hg=>hl g (hG g hg),hw.1,hw.2,λt' ht'=>Lc t' ht',λt2=> ?_,h1 _ _ _ _ e⟩
  let t':Nat->Question->Nat:=λi=>if i<V1.drawn then t i else t2 i
  obtain⟨n',a,b,c,hr',he'⟩:=later t';obtain⟨m1,q1,q2⟩:=Z0f hr';have e':=Lc t' (λi _ hi=>by show(if i<V1.drawn then t i else t2 i)=t i;rw[YZ hi]);rw[Z4E] at e';rw[Z0h e'] at q1;cases q1;obtain⟨_,i2⟩:=run_local hs hE n' fr1 cs1 (Nk.retape t' V1) (λg hg=>hl g (hG g hg)) (Bi.retape t') q2 he'
  have:=i2 t2 (λi hi _=>by
   have hi:V1.drawn<=i:=hi;show t2 i=(if i<V1.drawn then t i else t2 i);rw[XA (by omega)])
  exact⟨n',a,b,_,this,hE.tape _ _ _ t2 he'⟩
 ·exact(Z7f hE (h.retape t) hm hd hr he).elim
structure Link(P:Program)(fs:Array Func)(Gs:Nat->Bool)(E:Frame->List Frame->World->Prop) where
 fr:Frame
 cs:List Frame
 V:World
 glob:∀g,Gs g=true->Live V g
 self:Self P fs Gs fr cs V
 term:ZdQ (Z6 P fs) E fr cs V
 not:¬Halts (Z6 P fs) E fr cs V
def Z6p(a b:Link P fs Gs E):Prop:=
 a.V.drawn<=b.V.drawn/\∃es,∀t',(∀i,a.V.drawn<=i->i<b.V.drawn->t' i=b.V.tape i)->stepG (Z6 P fs) true (G a.fr a.cs) (Nk.retape t' a.V)= .go (G b.fr b.cs) (Nk.retape t' b.V) es
theorem follows(hs:Solo P fs Gs)(hE:IsEnd E)(a:Link P fs Gs E):∃b,Z6p a b:=by
 obtain⟨t,fr1,cs1,V1,es,e,h1,h2,h3,h4,h5,h6,h7⟩:=Z81 hs hE a.glob a.self a.term a.not;exact⟨⟨fr1,cs1,V1,h2,h1,h6,h7⟩,h3,es,λt' ht'=>h5 t' (λi hi hi'=>by rw[ht' i hi hi',h4])⟩
theorem Z7h(hs:Solo P fs Gs)(hE:IsEnd E)(hG:∀g,Gs g=true->Live V g)(h:Self P fs Gs fr cs V)(hT:ZdQ (Z6 P fs) E fr cs V):Halts (Z6 P fs) E fr cs V:=by
 apply VS;intro hn
 let nx:Link P fs Gs E->Link P fs Gs E:=λa=>(follows hs hE a).choose
 have Kh:∀a,Z6p a (nx a):=λa=>(follows hs hE a).choose_spec
 let a0:Link P fs Gs E:=⟨fr,cs,V,hG,h,hT,hn⟩
 let s:Nat->Link P fs Gs E:=λn=>Nat.rec a0 (λ_ a=>nx a) n
 have Dh:∀n,Z6p (s n) (s (n+1)):=λn=>Kh (s n)
 have mono:∀m n,m<=n->(s m).V.drawn<=(s n).V.drawn:=by
  intro m n hmn
  induction n with
  |zero=>obtain rfl:m=0:=by omega
         exact XB _
  |succ n ih=>
   rcases XY n m with A3|Fl
   ·obtain rfl:m=n+1:=(by omega);exact XB _
   ·exact XD (ih Fl) (Dh n).1
 let T:Nat->Question->Nat:=λi=>open Classical in if hx:∃n,(s n).V.drawn<=i/\i<(s (n+1)).V.drawn then(s (hx.choose+1)).V.tape i else λ_=>0
 have Pp:∀n i,(s n).V.drawn<=i->i<(s (n+1)).V.drawn->T i=(s (n+1)).V.tape i:=by
  intro n i h1 h2;have hx:∃n,(s n).V.drawn<=i/\i<(s (n+1)).V.drawn:=⟨n,h1,h2⟩;have e:hx.choose=n:=by
   obtain⟨h3,h4⟩:=hx.choose_spec;rcases QE hx.choose n with A3|he|A3
   ·have:=mono (hx.choose+1) n A3;omega
   ·exact he
   ·have:=mono (n+1) hx.choose A3;omega
  have e2:T i=(s (hx.choose+1)).V.tape i:=dif_pos hx;rw[e2,e]
 have key:∀n,runN (Z6 P fs) n (lone fr cs (Nk.retape T V))= .next (lone (s n).fr (s n).cs (Nk.retape T (s n).V)):=by
  intro n
  induction n with
  |zero=>rfl
  |succ n ih=>
   rw[runN_add,ih];obtain⟨_,es,hf⟩:=Dh n;simp only[runN];rw[Z0h (hf T (Pp n))]
 obtain⟨n,fr',cs',V',hr,he⟩:=hT T;rw[key n] at hr;simp only[VV] at hr;obtain⟨rfl,rfl,rfl⟩:=Z18 hr;exact(s n).not (.done T he)
end
end
inductive Tr where
 |leaf
 |node (f:World->Tr)
def ZaS(a b:Tr):Prop:=∃f w,b= .node f/\a=f w
theorem trLt_wf:WellFounded ZaS:=⟨λt=>by
 induction t with
 |leaf=>exact⟨_,λy ⟨f,w,h,_⟩=>by cases h⟩
 |node f ih=>exact⟨_,λy ⟨f',w,h,e⟩=>by cases h;subst e;exact ih w⟩⟩
def Tr.ofNat:Nat->Tr
 |0=> .leaf
 |n+1=> .node λ_=>Tr.ofNat n
def grow(o:Nat->Prop)(w w':World):Nat->Prop:=λb=>o b\/(w.heap.size<=b/\b<w'.heap.size)
section
variable (P:Program)(main:Bool)(R:(Nat->Prop)->World->World->Prop)(D:(Nat->Prop)->World->World->Array Event->Prop)(Stop:(Nat->Prop)->Goroutine->World->Prop)
def GoT:Tr->(Nat->Prop)->Goroutine->World->Prop
 | .leaf,o,g,w=>∀w₁,R o w w₁->Stop o g w₁
 | .node f,o,g,w=>(∀w₁,R o w w₁->Stop o g w₁)\/(g.status= .running/\∀w₁,R o w w₁->(stepG P main g w₁).goes λg' w' es=>D o w₁ w' es/\GoT (f w₁) (grow o w₁ w') g' w')
end
section
variable {P:Program}{main:Bool}{R R':(Nat->Prop)->World->World->Prop}{D D':(Nat->Prop)->World->World->Array Event->Prop}{Stop Stop':(Nat->Prop)->Goroutine->World->Prop}
theorem Z2o{K K':Goroutine->World->Array Event->Prop}(h:s.goes K)(hK:∀g w es,K g w es->K' g w es):s.goes K':=by
 cases s with
 |go g w es=>exact hK _ _ _ h
 |_=>exact h
theorem goes_iff{K:Goroutine->World->Array Event->Prop}:s.goes K↔∃g w es,s= .go g w es/\K g w es:=by
 cases s with
 |go g w es=>exact⟨λh=>⟨g,w,es,rfl,h⟩,fun⟨_,_,_,e,h⟩=>by cases e;exact h⟩
 |_=>exact⟨λh=>h.elim,fun⟨_,_,_,e,_⟩=>by cases e⟩
theorem GoT.stop(r:Tr){o:Nat->Prop}{g:Goroutine}{w:World}(h:∀w₁,R o w w₁->Stop o g w₁):GoT P main R D Stop r o g w:=by
 cases r with
 |leaf=>exact h
 |node f=>exact .inl h
theorem GoT.step{o:Nat->Prop}{g:Goroutine}{w:World}(hs:g.status= .running)
 (h:∀w₁,R o w w₁->∃g' w' es r,stepG P main g w₁= .go g' w' es/\D o w₁ w' es/\GoT P main R D Stop r (grow o w₁ w') g' w'):∃r,GoT P main R D Stop r o g w:=by
 classical
 refine⟨.node λw₁=>if hw:R o w w₁ then(h w₁ hw).choose_spec.choose_spec.choose_spec.choose else .leaf,.inr ⟨hs,λw₁ hw=> ?_⟩⟩;simp only[dif_pos hw];obtain⟨e,d,x⟩:=(h w₁ hw).choose_spec.choose_spec.choose_spec.choose_spec;exact goes_iff.2 ⟨_,_,_,e,d,x⟩
theorem GoT.rely(trans:∀o a b c,R o a b->R o b c->R o a c){r:Tr}{o:Nat->Prop}{g:Goroutine}{w w₁:World}(h:GoT P main R D Stop r o g w)(hr:R o w w₁):GoT P main R D Stop r o g w₁:=by
 cases r with
 |leaf=>exact λw₂ h₂=>h w₂ (trans _ _ _ _ hr h₂)
 |node f=>
  rcases h with h|⟨hs,h⟩
  ·exact .inl λw₂ h₂=>h w₂ (trans _ _ _ _ hr h₂)
  ·exact .inr ⟨hs,λw₂ h₂=>h w₂ (trans _ _ _ _ hr h₂)⟩
theorem GoT.mono(hR:∀o a b,R' o a b->R o a b)(hD:∀o a b es,D o a b es->D' o a b es)(hS:∀o g w,Stop o g w->Stop' o g w):∀{r:Tr}{o:Nat->Prop}{g:Goroutine}{w:World},GoT P main R D Stop r o g w->GoT P main R' D' Stop' r o g w:=by
 intro r
 induction r with
 |leaf=>exact λh w₁ hr=>hS _ _ _ (h w₁ (hR _ _ _ hr))
 |node f ih=>
  intro o g w h;rcases h with h|⟨hs,h⟩
  ·exact .inl λw₁ hr=>hS _ _ _ (h w₁ (hR _ _ _ hr))
  ·exact .inr ⟨hs,λw₁ hr=>Z2o (h w₁ (hR _ _ _ hr)) λg' w' es ⟨d,x⟩=>⟨hD _ _ _ _ d,ih w₁ x⟩⟩
theorem GoT.seq(refl:∀o w,R o w w)(hS:∀o g w,Stop o g w->∃r,GoT P main R D Stop' r o g w):∀{r:Tr}{o:Nat->Prop}{g:Goroutine}{w:World},GoT P main R D Stop r o g w->∃r',GoT P main R D Stop' r' o g w:=by
 intro r
 induction r with
 |leaf=>exact fun{o g w} h=>hS _ _ _ (h w (refl o w))
 |node f ih=>
  intro o g w h;rcases h with h|⟨hs,h⟩
  ·exact hS _ _ _ (h w (refl o w))
  ·refine GoT.step hs λw₁ hr=> ?_
   obtain⟨g',w',es,e,d,x⟩:=goes_iff.1 (h w₁ hr);obtain⟨r',x'⟩:=ih w₁ x;exact⟨g',w',es,r',e,d,x'⟩
theorem GoT.running(refl:∀o w,R o w w)(hS:∀o g w,Stop o g w->g.status= .running){r:Tr}{o:Nat->Prop}{g:Goroutine}{w:World}(h:GoT P main R D Stop r o g w):g.status= .running:=by
 cases r with
 |leaf=>exact hS _ _ _ (h w (refl o w))
 |node f=>
  rcases h with h|⟨hs,_⟩
  ·exact hS _ _ _ (h w (refl o w))
  ·exact hs
theorem Z0a{o:Nat->Prop}{w w':World}(h:w'.heap.size=w.heap.size):grow o w w'=o:=by
 funext b;apply propext;unfold grow;constructor
 ·rintro(h1|⟨h1,h2⟩)
  ·exact h1
  ·omega
 ·exact .inl
theorem GoT.of_goes{o:Nat->Prop}{Rk:World->World->Prop}{Dk:World->World->Array Event->Prop}{Sk:Goroutine->World->Prop}(hR:∀a b,R o a b->Rk a b)(hD:∀a b es,Dk a b es->D o a b es/\b.heap.size=a.heap.size)
 (hS:∀g w,Sk g w->Stop o g w):∀{n:Nat}{g:Goroutine}{w:World},Goes P main Rk Dk Sk n g w->GoT P main R D Stop (.ofNat n) o g w:=by
 intro n
 induction n with
 |zero=>exact λh w₁ hr=>hS _ _ (h w₁ (hR _ _ hr))
 |succ n ih=>
  intro g w h;rcases h with h|⟨hs,h⟩
  ·exact .inl λw₁ hr=>hS _ _ (h w₁ (hR _ _ hr))
  ·refine .inr ⟨hs,λw₁ hr=>Z2o (h w₁ (hR _ _ hr)) λg' w' es ⟨d,x⟩=> ?_⟩;obtain⟨h1,h2⟩:=hD _ _ _ d;refine⟨h1,?_⟩;rw[Z0a h2];exact ih x
end
def Z9k(n:Nat)(a b:Nat->Tr):Prop:=∃i,i<n/\ZaS (a i) (b i)/\∀k,k<n->k≠i->a k=b k
theorem Zb8{α β:Type}{r:α->α->Prop}{s:β->β->Prop}{a:α}(ha:Acc r a):∀{b:β},Acc s b->Acc (λx y:α×β=>(r x.1 y.1/\x.2=y.2)\/(x.1=y.1/\s x.2 y.2)) (a,b):=by
 induction ha with
 |intro a _ iha=>
  intro b hb
  induction hb with
  |intro b hb' ihb=>
   refine⟨_,?_⟩;rintro⟨x,y⟩ (⟨h1,h2⟩|⟨h1,h2⟩)
   ·simp only at h1 h2;subst h2;exact iha x h1 ⟨_,hb'⟩
   ·simp only at h1 h2;subst h1;exact ihb y h2
theorem rowLt_wf:∀n,WellFounded (Z9k n):=by
 intro n
 induction n with
 |zero=>exact⟨λa=>⟨_,λy ⟨i,hi,_⟩=>by omega⟩⟩
 |succ n ih=>
  have key:∀(p:Tr×(Nat->Tr)),Acc (λx y:Tr×(Nat->Tr)=>(ZaS x.1 y.1/\x.2=y.2)\/(x.1=y.1/\Z9k n x.2 y.2)) p:=λp=>Zb8 (trLt_wf.apply p.1) (ih.apply p.2)
  let cut:(Nat->Tr)->(Nat->Tr):=λa i=>if i<n then a i else .leaf
  have hc:∀(p:Tr×(Nat->Tr)),Acc (λx y:Tr×(Nat->Tr)=>(ZaS x.1 y.1/\x.2=y.2)\/(x.1=y.1/\Z9k n x.2 y.2)) p->∀a,(a n,cut a)=p->Acc (Z9k (n+1)) a:=by
   intro p hp
   induction hp with
   |intro p _ ihp=>
    intro a ha;refine⟨_,λb hb=> ?_⟩;obtain⟨i,hi,h1,h2⟩:=hb;refine ihp (b n,cut b) ?_ b rfl;rw[<-ha];rcases XY i n with Ao|Ao
    ·right
     refine⟨h2 n (by omega) (by omega),i,Ao,by simp only[cut,YZ Ao];exact h1,λk hk Gu=>by simp only[cut,YZ hk];exact h2 k (by omega) Gu⟩
    ·left
     obtain rfl:i=n:=(by omega);refine⟨h1,?_⟩;funext k;simp only[cut];split
     ·rename_i hk;exact h2 k (by omega) (by omega)
     ·rfl
  exact⟨λa=>hc _ (key _) a rfl⟩
def ZdR(a b:Nat×Nat×(Nat->Tr)):Prop:=a.1<b.1\/(a.1=b.1/\a.2.1=b.2.1/\Z9k a.2.1 a.2.2 b.2.2)
theorem muLt_wf:WellFounded ZdR:=by
 constructor;have key:∀(k:Nat)(n:Nat)(a:Nat->Tr),(∀k',k'<k->∀n a,Acc ZdR (k',n,a))->Acc ZdR (k,n,a):=by
  intro k n a hk
  induction (rowLt_wf n).apply a with
  |intro a _ ih=>
   refine⟨_,?_⟩;rintro⟨k',n',a'⟩ (h|⟨h1,h2,h3⟩)
   ·exact hk k' h n' a'
   ·simp only at h1 h2 h3;subst h1;subst h2;exact ih a' h3
 have all:∀k n a,Acc ZdR (k,n,a):=by
  intro k
  induction k using Nat.strongRecOn with
  |_ k ih=>exact λn a=>key k n a λk' hk'=>ih k' hk'
 exact fun⟨k,n,a⟩=>all k n a
end Go.Nk
