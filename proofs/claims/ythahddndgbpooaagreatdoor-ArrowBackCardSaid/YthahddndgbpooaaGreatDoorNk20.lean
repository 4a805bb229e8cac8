import Derived.Test.YthahddndgbpooaaGreatDoorNkA
import Derived.Test.YthahddndgbpooaaGreatDoorNk11
import Derived.Test.YthahddndgbpooaaGreatDoorNk12
import Derived.Test.YthahddndgbpooaaGreatDoorNk19
import Derived.Carry
import Derived.ChangeSame
import Derived.Conc.LeavingOf
import Derived.Stop.Joined
set_option linter.all false
set_option maxRecDepth 100000
open Go
variable {gs:Array Goroutine}{c' cc:Array Value}{Ho again apart fresh:Bool}{b c fr:Frame}{Stop:Frame->List Frame->World->Prop}{fn:Func}{f:FuncId}{g:Goroutine}{r0 r1 r2 r3:Int}{bot' bs cs cs':List Frame}{B C Ik Wg b0 cap j l off sb:Nat}{q ρ:Nat->Nat}{Fz Giv L o o2:Nat->Prop}{ad:Option Addr}{P:Program}{t:Trace}{e ty u:TypeId}{d v x':Value}{V V1 W w w1 w2 w₁:World}
namespace Go.Proofs.Tryv
section
open Go Go.Nk Go.RowKit Go.Conc Go.Conc.Lib Go.ConcR.Gen Go.ConcN.Gen
open Go.ConcN (ShN WgLive PayAt Has CTag)
open Go.ConcR (KK WgAt stA smA rd wr mk Payload DC0)
open Go.Proofs.Tryq (theBan Zh ZH link payload wgLib Grew Sh Z7)
attribute [local instance] theBan
attribute [local instance] payload
section
variable {N n:Nat}{sh:Nat->Obj->Prop}{Sb:Nat->Prop}{k:List Item}{m:Nat->Value}{Res:Nat->(Nat->Prop)->Value->World->Prop}{Next:(Nat->Prop)->Goroutine->World->Prop}
theorem addFn_body:(addFn link).body=some (body_add link):=rfl
theorem addFn_ntmps:(addFn link).ntmps=117:=rfl
theorem Zdj{F:World->Prop}(hF:∀w w',RMo link.tWg (N+3) (N+1) n o w w'->F w->F w')(hL:∀w,F w->WgLive link.tWg (N+3) w)(ho:¬o (N+3))(hm:Hm N n j m)(h:F w)
 (next:∀w,F w->∃r,GoT Tryz.prog true (RMo link.tWg (N+3) (N+1) n) (DMo (N+3) Sb Giv) (MGo Tryz.prog link.tWg (N+3) (N+1) n Sb Res j Next) r o (G ((base 114).at (ZD 23 (upM m 18 (.tuple #[])) []) (.inRegion q6 []::k)) cs) w):
 ∃r,GoT Tryz.prog true (RMo link.tWg (N+3) (N+1) n) (DMo (N+3) Sb Giv) (ZdU Tryz.prog link.tWg (N+3) (N+1) n Sb Res Giv j Next) r o (G ((base 114).at (ZD 23 m []) (.inRegion q6 [0]::k)) cs) w:=by
 obtain⟨oo,ho',hd,A2,hg⟩:=q6_0;refine GoT.step rfl λw₁ hw=> ?_
 have h1:=hF _ _ hw h;have hv:(#[Operand.tmp 4,.const (.int .i64 1)]:Array Operand).map (Zd 23 m)= #[.pointer (some ⟨N+3,0,none⟩),.int .i64 1]:=by
  have e1:Zd 23 m (.tmp 4)= .pointer (some ⟨N+3,0,none⟩):=hm.t4;simp only[TM,VC,VQ,e1];rfl
 obtain⟨e1,e2⟩:=Zcq (w:=w₁) (m:=m) wgLib.f_add (nm_add link) rfl A2 hv;have e:=stepG_enter (main:=true) (b:=base 114) (k:=k) (cs:=cs) (rest:=[]) (a:=ZD 23 m []) ho' (Z1L hg _) (by decide) (by rw[actM_eval];exact e1);rw[enter_at _ wgLib.f_add addFn_body] at e
 obtain⟨r,hr⟩:=addM (L:=link) (Wg:=N+3) (C:=N+1) (n:=n) (Sb:=Sb) (Giv:=Giv) (o:=o) (Res:=Res) (j:=j) (Next:=Next) (F:=F) (b₀:=base 114) (a₀:=ZD 23 m []) (ops₀:=q6) (i₀:=0) (rest₀:=[]) (k₀:=k) (cs:=cs) wgLib ho (by omega) hF (λw hF _=>by
  have hq:(q6[0]?).bind (·.dst)=some 18:=by rw[ho'];exact hd
  rw[hq,Z2x];exact next w hF) w₁ ⟨h1,hL _ h1⟩
 refine⟨_,w₁,_,r,e,⟨λ_ _ _=>rfl,XB _,rfl,rfl,rfl,λev Bb=> ?_⟩,?_⟩
 ·have:=RB Bb;rw[actM_eval] at this;exact(e2 ev this).elim
 ·rw[Z0a rfl,addFn_ntmps];simp only[VZ,YP,XM,Nat.reduceAdd,Nat.reduceSub,UV,UU,TH,UX,YJ,YK,UA];exact hr
end
abbrev Nx(N n:Nat)(Sb:Nat->Prop)(Res:Nat->(Nat->Prop)->Value->World->Prop)(A:(Nat->Prop)->Goroutine->World->Prop)(r:Nat):(Nat->Prop)->Goroutine->World->Prop:=
 λo g w=>SpawnsN Tryz.prog link.tWg (N+3) (N+1) n Sb Res A r o o g w
def Zcr(N n:Nat)(Sb:Nat->Prop)(Res:Nat->(Nat->Prop)->Value->World->Prop)(A:(Nat->Prop)->Goroutine->World->Prop)(Giv:Nat->Prop):Nat->(Nat->Prop)->Goroutine->World->Prop
 |0=>MKd Tryz.prog link.tWg (N+3) (N+1) n Sb A Giv
 |r+1=>ZdU Tryz.prog link.tWg (N+3) (N+1) n Sb Res Giv (n - (r+1)) (Nx N n Sb Res A r)
section
variable {N n:Nat}{sh:Nat->Obj->Prop}{Sb:Nat->Prop}{m:Nat->Value}{Res:Nat->(Nat->Prop)->Value->World->Prop}{A:(Nat->Prop)->Goroutine->World->Prop}
theorem Z2y(r:Nat)(g:Goroutine):SpawnsN Tryz.prog link.tWg (N+3) (N+1) n Sb Res A r Giv o g w=∃t,GoT Tryz.prog true (RMo link.tWg (N+3) (N+1) n) (DMo (N+3) Sb Giv) (Zcr N n Sb Res A Giv r) t o g w:=by
 cases r<;>rfl
theorem Zec(hn:n<=8)(I3:∀b,Sb b->b<N)(Bz:∀b ob,sh b ob->b<N)
 (Jf:∀j o w Ik,j<n->MnI N n cc sh Ik j o w->¬Sb Ik->N+3<Ik->PayAt (N+1) n w->Z9l Tryz.prog link.tWg (N+3) (N+1) n Sb Res j o (born Tryz.prog (Z8s N Ik)) w)
 (Ce:∀Giv o w m,Hm N n n m->Mn N n cc sh o w->∃t,GoT Tryz.prog true (RMo link.tWg (N+3) (N+1) n) (DMo (N+3) Sb Giv) (MKd Tryz.prog link.tWg (N+3) (N+1) n Sb A Giv) t o (G ((base 114).at (ZD 23 m []) [.code T82]) cs) w):
 ∀(r j:Nat)(m:Nat->Value)(Giv o:Nat->Prop)(w:World),j+r=n->Hm N n j m->Mn N n cc sh o w->(∀b,Giv b->b<w.heap.size)->
  SpawnsN Tryz.prog link.tWg (N+3) (N+1) n Sb Res A r Giv o (G ((base 114).at (ZD 23 m []) (.code L82::kL)) cs) w:=by
 intro r
 induction r with
 |zero=>
  intro j m Giv o w hj hm hM Rq;obtain rfl:j=n:=by omega
  rw[Z2y,L82_eq];have hF:=Z6J N j cc sh;refine ZB hF rfl (λw=>XH) hM λw hM=> ?_
  refine ZB hF rfl (λw=>UD) hM λw hM=> ?_
  rw[q4_size];obtain⟨oo,ho,hd,A2,hg⟩:=q4_0;refine Z8r hF (by decide) ho hd hg (λx=>Ze7 A2 hm.t15 hm.t14) hM λw hM=> ?_
  rw[show decide ((j:Int)<j)=false from XV (by omega)];refine ZB hF rfl (λw=>XC) hM λw hM=> ?_
  refine ZB hF rfl (λw=>XH) hM λw hM=> ?_
  refine ZB hF rfl (λw=>stepG_cond (t:=false) (by rw[actM_eval];rfl)) hM λw hM=> ?_
  refine ZB hF rfl (λw=>stepG_exit (k':=[.code T82]) rfl) hM λw hM=> ?_
  exact Ce Giv o w _ (hm.up (by decide)) hM
 |succ r ih=>
  intro j m Giv o w hj hm hM Rq;have Vd:n - (r+1)=j:=by omega
  rw[Z2y,L82_eq];simp only[Zcr,Vd];have hF:=Z6J N n cc sh;have B1:=hM.sz;obtain⟨B,hB,Kk⟩:∃B,(∀b,Giv b->b<B)/\B<=w.heap.size/\N+3<B:=⟨_,Rq,XB _,B1⟩;have hF':∀o w w₁,RMo link.tWg (N+3) (N+1) n o w w₁->(Mn N n cc sh o w/\B<=w.heap.size)->(Mn N n cc sh o w₁/\B<=w₁.heap.size):=λo w w₁ hr h=>⟨h.1.rely hr,XD h.2 hr.size⟩
  have hM:Mn N n cc sh o w/\B<=w.heap.size:=⟨hM,Kk.1⟩;refine ZB hF' rfl (λw=>XH) hM λw hM=> ?_
  refine ZB hF' rfl (λw=>UD) hM λw hM=> ?_
  rw[q4_size];obtain⟨oo,ho,hd,A2,hg⟩:=q4_0;refine Z8r hF' (by decide) ho hd hg (λx=>Ze7 A2 hm.t15 hm.t14) hM λw hM=> ?_
  rw[show decide ((j:Int)<n)=true from XX (by omega)];replace hm:=hm.up (d:=16) (v:= .bool true) (by decide);have h16:(upM m 16 (.bool true)) 16= .bool true:=rfl;generalize upM m 16 (.bool true)=m1 at hm h16⊢;refine ZB hF' rfl (λw=>XC) hM λw hM=> ?_
  refine ZB hF' rfl (λw=>XH) hM λw hM=> ?_
  refine ZB hF' rfl (λw=>stepG_cond (t:=true) (by rw[actM_eval];exact h16)) hM λw hM=> ?_
  refine ZB hF' rfl (λw=>UN) hM λw hM=> ?_
  refine ZB hF' rfl (λw=>XH) hM λw hM=> ?_
  refine ZB hF' rfl (λw=>stepG_block) hM λw hM=> ?_
  refine ZB hF' rfl (λw=>XH) hM λw hM=> ?_
  refine ZB hF' rfl (λw=>UD) hM λw hM=> ?_
  rw[q5_size];obtain⟨oo,ho,hd,A2,hg⟩:=q5_0;refine Z8r hF' (by decide) ho hd hg (λx=>Z9U (s:=15) A2 (.inr rfl) (by decide)) hM λw hM=> ?_
  rw[hm.t15];replace hm:=hm.up (d:=17) (v:= .int .i64 j) (by decide);have Vf:(upM m1 17 (.int .i64 j)) 17= .int .i64 j:=rfl;generalize upM m1 17 (.int .i64 j)=m2 at hm Vf⊢;obtain⟨oo,ho,hd,A2,hg⟩:=q5_1;refine Za1 (by decide) ho hd hg A2 hM.1 λo1 w1 Ik hI Je Mi=> ?_
  have hIB:B<=Ik:=XD hM.2 Je;replace hm:=hm.up (d:=5) (v:= .pointer (some ⟨Ik,0,none⟩)) (by decide);have h5:(upM m2 5 (.pointer (some ⟨Ik,0,none⟩))) 5= .pointer (some ⟨Ik,0,none⟩):=rfl;have Rr:(upM m2 5 (.pointer (some ⟨Ik,0,none⟩))) 17= .int .i64 j:=Vf;generalize upM m2 5 (.pointer (some ⟨Ik,0,none⟩))=m3 at hm h5 Rr⊢;have Mh:¬Sb Ik:=λh=>by have:=I3 _ h;omega
  obtain⟨oo,ho,hd,A2,hg⟩:=q5_2;refine Za2 (by decide) ho hd hg A2 h5 Rr hI (λh=>by have:=hB _ h;omega) Mh ⟨by omega,by omega,by omega,by omega,λb ob hb=>by have:=Bz b ob hb;omega⟩ λw1 hI=> ?_
  have Ih:=Z7A N n cc sh Ik j;refine ZB Ih rfl (λw=>XC) hI λw1 hI=> ?_
  refine ZB Ih rfl (λw=>XH) hI λw1 hI=> ?_
  refine ZB Ih rfl (λw=>UD) hI λw1 hI=> ?_
  rw[q6_size];refine Zdj (F:=MnI N n cc sh Ik j o1) (Ih o1) (λw h=>h.1.live) hI.1.oW hm hI λw1 hI=> ?_
  replace hm:=hm.up (d:=18) (v:= .tuple #[]) (by decide);have h5':(upM m3 18 (.tuple #[])) 5= .pointer (some ⟨Ik,0,none⟩):=h5;generalize upM m3 18 (.tuple #[])=m4 at hm h5'⊢;refine ZB Ih rfl (λw=>XC) hI λw1 hI=> ?_
  refine ZB Ih rfl (λw=>UD) hI λw1 hI=> ?_
  rw[q7_size];obtain⟨oo,ho,hd,A2,hg⟩:=q7_0;refine Z8r Ih (by decide) ho hd hg (λx=>Zeb (N:=N) (Ik:=Ik) A2 hm h5') hI λw1 hI=> ?_
  replace hm:=hm.up (d:=19) (v:= .func (.func 139) #[] #[.pointer (some ⟨N+3,0,none⟩),.pointer (some ⟨N,0,none⟩),.pointer (some ⟨Ik,0,none⟩),.pointer (some ⟨N+2,0,none⟩)]) (by decide);have h19:(upM m4 19 (.func (.func 139) #[] #[.pointer (some ⟨N+3,0,none⟩),.pointer (some ⟨N,0,none⟩),.pointer (some ⟨Ik,0,none⟩),.pointer (some ⟨N+2,0,none⟩)])) 19= .func (.func 139) #[] #[.pointer (some ⟨N+3,0,none⟩),.pointer (some ⟨N,0,none⟩),.pointer (some ⟨Ik,0,none⟩),.pointer (some ⟨N+2,0,none⟩)]:=rfl;generalize upM m4 19 (.func (.func 139) #[] #[.pointer (some ⟨N+3,0,none⟩),.pointer (some ⟨N,0,none⟩),.pointer (some ⟨Ik,0,none⟩),.pointer (some ⟨N+2,0,none⟩)])=m5 at hm h19⊢;refine⟨.leaf,GoT.stop _ λw2 Cp=> ?_⟩;have Px:=Ih _ _ _ Cp hI;obtain⟨oo,ho,hd,A2,hg⟩:=q7_1;obtain⟨e1,e2⟩:=r_go (w:=w2) A2 h19;have e:=stepG_spawn (main:=true) (b:=base 114) (k:= .inBlock 1:: .code (.region 8 q8 false)::kL) (cs:=cs) (rest:=[]) (a:=ZD 23 m5 []) (f:= .func 139) ho (Z1L hg _) (by decide) (by rw[actM_eval];exact e1) rfl;have hl:listed Tryz.prog (base 114).fn (ZD 23 m5 []) oo w2= #[]:=by
   unfold listed;rw[actM_eval,e2];exact seen_none _ _
  rw[hl,hd] at e;refine⟨rfl,_,_,e,rfl,λhp=>Jf j o1 w2 Ik (by omega) Px Mh (by omega) hp,?_⟩;show SpawnsN _ _ _ _ _ _ _ _ _ _ _ _ _;rw[Z2y];have Rb:=Px.1;have Od:∀o w w₁,RMo link.tWg (N+3) (N+1) n o w w₁->Mn N n cc sh o w->Mn N n cc sh o w₁:=hF;refine ZB Od rfl (λw=>XC) Rb λw3 D5=> ?_
  refine ZB Od rfl (λw=>stepG_inBlock) D5 λw3 D5=> ?_
  refine ZB Od rfl (λw=>UD) D5 λw3 D5=> ?_
  rw[q8_size];obtain⟨oo,ho,hd,A2,hg⟩:=q8_0;refine Z8r Od (by decide) ho hd hg (λx=>Ze8 (i:=j) (by omega) A2 hm.t15) D5 λw3 D5=> ?_
  replace hm:=hm.up (d:=20) (v:= .int .i64 ((j+1:Nat):Int)) (by decide);have Mj:(upM m5 20 (.int .i64 ((j+1:Nat):Int))) 20= .int .i64 ((j+1:Nat):Int):=rfl;generalize upM m5 20 (.int .i64 ((j+1:Nat):Int))=m6 at hm Mj⊢;obtain⟨oo,ho,hd,A2,hg⟩:=q8_1;refine Z8r Od (by decide) ho hd hg (λx=>Z9U (s:=20) A2 (.inr rfl) (by decide)) D5 λw3 D5=> ?_
  rw[Mj];refine ZB Od rfl (λw=>XC) D5 λw3 D5=> ?_
  refine ZB Od rfl (λw=>stepG_inLoop) D5 λw3 D5=> ?_
  rw[<-Z2y];exact ih (j+1) _ _ _ _ (by omega) ⟨hm.t1,hm.t3,hm.t4,hm.t14,rfl⟩ D5 (λb hb=>D5.lt b hb)
end
section
variable {n:Nat}{Sb:Nat->Prop}{End A A':(Nat->Prop)->Goroutine->World->Prop}
theorem ZbF(hA:∀o g w,A o g w->A' o g w)(h:MKd P ty Wg C n Sb A Giv o g w):MKd P ty Wg C n Sb A' Giv o g w:=by
 obtain⟨hs,g',e,r,hr⟩:=h;exact⟨hs,g',e,r,hr.mono (λ_ _ _ h=>h) (λ_ _ _ _ h=>h) hA⟩
theorem ZbG{v:Nat}(hA:∀o g w,A o g w->A' o g w)(h:MW2 P ty Wg C n Sb End A Giv v o g w):MW2 P ty Wg C n Sb End A' Giv v o g w:=by
 obtain⟨hs,h⟩:=h;refine⟨hs,λx hx hw=>⟨(h x hx hw).1,λA9=> ?_⟩⟩;obtain⟨g',e,r,hr⟩:=(h x hx hw).2 A9;exact⟨g',e,r,hr.mono (λ_ _ _ h=>h) (λ_ _ _ _ h=>h) hA⟩
theorem ZbH(hA:∀o g w,A o g w->A' o g w)(h:MW1 P ty Wg C n Sb End A Giv o g w):MW1 P ty Wg C n Sb End A' Giv o g w:=by
 obtain⟨hs,h⟩:=h;refine⟨hs,λv hv hw=> ?_⟩;obtain⟨g',e,h0,h1⟩:=h v hv hw;refine⟨g',e,h0,λA9=> ?_⟩;obtain⟨r,hr⟩:=h1 A9;exact⟨r,hr.mono (λ_ _ _ h=>h) (λ_ _ _ _ h=>h) (λ_ _ _ h=>ZbG hA h)⟩
end
noncomputable def kT:List Item:=[.code (.seq (.region 10 q10 false) .ret)]
def AnW(N n:Nat)(cc:Array Value)(sh:Nat->Obj->Prop)(cs:List Frame)(o:Nat->Prop)(g:Goroutine)(w:World):Prop:=
 ∃m,Hm N n n m/\Zbm link (λo w=>Mn N n cc sh o w) (N+3) ((base 114).at (ZD 23 m []) (.inRegion q9 [0]::kT)) cs o g w
def EnW(N n:Nat)(cc:Array Value)(sh:Nat->Obj->Prop)(cs:List Frame)(o:Nat->Prop)(g:Goroutine)(w:World):Prop:=
 ∃m,Hm N n n m/\g=G ((base 114).at (ZD 23 m []) (.inRegion q9 []::kT)) cs/\Mn N n cc sh o w
section
variable {N n:Nat}{sh:Nat->Obj->Prop}{Sb:Nat->Prop}
theorem anW_running:∀o g w,AnW N n cc sh cs o g w->g.status= .running:=by
 rintro o g w ⟨m,_,T,rfl,_⟩;rfl
theorem enW_running:∀o g w,EnW N n cc sh cs o g w->g.status= .running:=by
 rintro o g w ⟨m,_,rfl,_⟩;rfl
theorem waitFn_body:(waitFn link).body=some (body_wait link):=rfl
theorem waitFn_ntmps:(waitFn link).ntmps=84:=rfl
theorem ZbI(Giv o:Nat->Prop)(w:World)(m:Nat->Value)(hm:Hm N n n m)(hM:Mn N n cc sh o w):
 ∃t,GoT Tryz.prog true (RMo link.tWg (N+3) (N+1) n) (DMo (N+3) Sb Giv) (MKd Tryz.prog link.tWg (N+3) (N+1) n Sb (AnW N n cc sh cs) Giv) t o (G ((base 114).at (ZD 23 m []) [.code T82]) cs) w:=by
 have hF:=Z6J N n cc sh;rw[T82_eq];refine ZB hF rfl (λw=>XH) hM λw hM=> ?_
 refine ZB hF rfl (λw=>UD) hM λw hM=> ?_
 rw[q9_size];obtain⟨oo,ho',hd,A2,hg⟩:=q9_0;refine GoT.step rfl λw₁ hw=> ?_
 have h1:=hM.rely hw;have hv:(#[Operand.tmp 4]:Array Operand).map (Zd 23 m)= #[.pointer (some ⟨N+3,0,none⟩)]:=by
  have e1:Zd 23 m (.tmp 4)= .pointer (some ⟨N+3,0,none⟩):=hm.t4;simp only[TM,VC,VQ,e1]
 obtain⟨e1,e2⟩:=Zcq (w:=w₁) (m:=m) wgLib.f_wait (nm_wait link) rfl A2 hv;have e:=stepG_enter (main:=true) (b:=base 114) (k:=kT) (cs:=cs) (rest:=[]) (a:=ZD 23 m []) ho' (Z1L hg _) (by decide) (by rw[actM_eval];exact e1);rw[enter_at _ wgLib.f_wait waitFn_body] at e;obtain⟨r,hr⟩:=Z8i (L:=link) (Wg:=N+3) (C:=N+1) (n:=n) (Sb:=Sb) (F:=λo w=>Mn N n cc sh o w) (b₀:=base 114) (a₀:=ZD 23 m []) (ops₀:=q9) (i₀:=0) (rest₀:=[]) (k₀:=kT) (cs:=cs) wgLib Giv o (λo w w' hr h=>h.rely hr) w₁ ⟨h1,h1.live⟩;have hr:=hr.mono (λ_ _ _ h=>h) (λ_ _ _ _ h=>h) (λ_ _ _ h=>ZbF (A':=AnW N n cc sh cs) (λo g w h=>⟨m,hm,h⟩) h);refine⟨_,w₁,_,r,e,⟨λ_ _ _=>rfl,XB _,rfl,rfl,rfl,λev Bb=> ?_⟩,?_⟩
 ·have:=RB Bb;rw[actM_eval] at this;exact(e2 ev this).elim
 ·rw[Z0a rfl,waitFn_ntmps];simp only[VZ,YP,XM,Nat.reduceAdd,Nat.reduceSub,UV,UU,TH,UX,YJ,YK,UA];exact hr
theorem Z8t(Giv o:Nat->Prop)(g:Goroutine)(w:World)(h:AnW N n cc sh cs o g w):
 ∃r,GoT Tryz.prog true (RMo link.tWg (N+3) (N+1) n) (DMo (N+3) Sb Giv) (MW1 Tryz.prog link.tWg (N+3) (N+1) n Sb (EnW N n cc sh cs) (AnW N n cc sh cs) Giv) r o g w:=by
 obtain⟨m,hm,h⟩:=h
 obtain⟨r,hr⟩:=Z8j (L:=link) (Wg:=N+3) (C:=N+1) (n:=n) (Sb:=Sb) (End:=EnW N n cc sh cs) (F:=λo w=>Mn N n cc sh o w) (b₀:=base 114) (a₀:=ZD 23 m []) (ops₀:=q9) (i₀:=0) (rest₀:=[]) (k₀:=kT) (cs:=cs) wgLib (by omega) (λo w w' hr h=>h.rely hr) (λo w h=>h.oW)
  (λGiv o w hF _=>by
    obtain⟨oo,ho',hd,A2,hg⟩:=q9_0;have hq:(q9[0]?).bind (·.dst)=some 21:=(by rw[ho'];exact hd);rw[hq,Z2x];exact⟨.leaf,GoT.stop _ λw₁ hr=>⟨_,hm.up (by decide),rfl,hF.rely hr⟩⟩) Giv o g w h
 exact⟨r,hr.mono (λ_ _ _ h=>h) (λ_ _ _ _ h=>h) (λ_ _ _ h=>ZbH (λo g w h=>⟨m,hm,h⟩) h)⟩
end
end
section
open Go Go.Nk Go.RowKit Go.Conc Go.Conc.Lib Go.ConcR.Gen Go.ConcN.Gen
open Go.ConcN (ShN WgLive PayAt Has CTag)
open Go.ConcR (KK WgAt stA smA rd wr mk Payload DC0)
open Go.Proofs.Tryq (theBan Zh Zg ZH Z0l link payload wgLib Grew Sh ShotAt Z7)
attribute [local instance] theBan
attribute [local instance] payload
theorem Z7B{x:MemAct}{W:Nat}(h:x.low B)(hB:B<=W):Z8O W x:=by
 constructor
 ·intro y hy;cases x with
  |access e=>
   simp only[MemAct.touch?,XJ] at hy;subst hy;rintro⟨a,ha,Vh⟩;have h:e.loc.low B:=h;have ha:e.loc= .cell a:=ha;rw[ha] at h;have h:a.block<B:=h;omega
  |mark m=>
   cases m with
   |read a=>
    simp only[MemAct.touch?,XJ] at hy;subst hy;rintro⟨a',ha,Vh⟩;cases ha;have h:a.block<B:=h;omega
   |write a=>
    simp only[MemAct.touch?,XJ] at hy;subst hy;rintro⟨a',ha,Vh⟩;cases ha;have h:a.block<B:=h;omega
   |_=>cases hy
  |_=>cases hy
 ·rintro rfl;have h:(stA W).block<B:=h;have e:(stA W).block=W:=rfl;omega
theorem Za3{e:Event}(h:Event.mute e=true)(W:Nat):Z8O W (MemAct.ofEvent e):=Z7B (low_mute (B:=0) h) (XS _)
def ResQ(cc:Array Value)(r0 r1 r2 r3:Int)(S:List Sh)(k:Nat)(o:Nat->Prop)(v:Value)(w:World):Prop:=
 ∃(s:Sh)(β:Nat->Nat),S[k]? =some s/\v= .pointer (some ⟨β 1,0,none⟩)/\Tryw.Five cc r0 r1 r2 r3 s o β w
theorem Zdk(cc:Array Value)(r0 r1 r2 r3:Int)(S:List Sh):ResOk (ResQ cc r0 r1 r2 r3 S):=by
 rintro k o v w w₁ hw ⟨s,β,h1,h2,h3,h4,h5⟩;exact⟨s,β,h1,h2,h3,λj hj=>(hw _ (h3 j hj)).trans (h4 j hj),h5⟩
section
variable {n:Nat}{sh:Nat->Obj->Prop}{Sb:Nat->Prop}{Res:Nat->(Nat->Prop)->Value->World->Prop}
def Zcs(N:Nat)(w:World)(b:Nat):Prop:=b<w.heap.size/\b≠N+1/\b≠N+3
theorem Zdl{m:Nat->Value}{sl:Option (Nat×Nat)}(hn:n<=8)(I3:∀b,Sb b->b<w.heap.size)(hG:Grew w w1 (ZdI cc w.heap.size n))(hm:Hm w.heap.size n 0 m)
 (hM:MacM Tryz.prog Sb ((base 114).at (ZD 23 m []) (.code L82::kL)) cs gs w1 t q)(ht:∀op∈t,Z8O (w.heap.size+3) op.act)(Bz:∀b ob,sh b ob->b<w.heap.size/\w.heap[b]? =some ob)(hR:ResOk Res)
 (Jf:∀j o w1 Ik,j<n->MnI w.heap.size n cc sh Ik j o w1->¬Sb Ik->w.heap.size+3<Ik->(∀b,Sb b->b<w.heap.size)->PayAt (w.heap.size+1) n w1->Z9l Tryz.prog link.tWg (w.heap.size+3) (w.heap.size+1) n Sb Res j o (born Tryz.prog (Z8s w.heap.size Ik)) w1):
 ∃K m' t',runNT Tryz.prog K (crowd gs w1 sl) t=(.next m',t')/\Z5R Tryz.prog (w.heap.size+3) (w.heap.size+1) n Sb Res (EnW w.heap.size n cc sh cs) w1 (Zcs w.heap.size w1) m' t':=by
 have Dh:w1.heap.size=w.heap.size+4:=hG.size;have new:∀i,i<4->w1.heap[w.heap.size+i]? =(ZdI cc w.heap.size n)[i]? :=λi hi=>hG.new i hi
 have Ax:WgAt link.tWg (w.heap.size+3) w1 0 0:=new 3 (by omega);have E7:PayAt (w.heap.size+1) n w1:=⟨_,new 1 (by omega),Z0l _ _ _⟩;have Vi:Mn w.heap.size n cc sh (Zcs w.heap.size w1) w1:=by
  refine⟨new 0 (by omega),new 2 (by omega),⟨_,_,Ax⟩,⟨by omega,by omega,by omega⟩,⟨by omega,by omega,by omega⟩,λh=>h.2.1 rfl,λh=>h.2.2 rfl,λb hb=>hb.1,by omega,λb ob hb=> ?_⟩;obtain⟨h1,h2⟩:=Bz b ob hb;exact⟨⟨by omega,by omega,by omega⟩,(hG.old b h1).trans h2⟩
 have F9:GeoN (w.heap.size+3) (w.heap.size+1) Sb w1 0 (λ_ _=>False) (λ_ _=>False) (Zcs w.heap.size w1) (Zcs w.heap.size w1):=
  ⟨λk hk=>by omega,λk k' hk=>by omega,λb hb=>⟨hb.1,hb.2.2,hb.2.1⟩,λk hk=>by omega,λb hb=>hb,λb hb=>⟨by have:=I3 b hb;omega,by have:=I3 b hb;omega,by have:=I3 b hb;omega⟩,by omega,by omega,by omega⟩
 have D7:=Zec (Sb:=Sb) (Res:=Res) (A:=AnW w.heap.size n cc sh cs) (cs:=cs) hn I3 (λb ob hb=>(Bz b ob hb).1) (λj o w1 Ik hj hI hs Je hp=>Jf j o w1 Ik hj hI hs Je I3 hp) (λGiv o w m hm hM=>ZbI Giv o w m hm hM) n 0 m (Zcs w.heap.size w1) (Zcs w.heap.size w1) w1 (by omega) hm Vi (λb hb=>hb.1);refine Zea (sl:=sl) hR (by omega) anW_running enW_running (λGiv o g w h=>Z8t Giv o g w h) hM.main hM.leave hM.past (XB _) (λop A2 x hx=>(ht op A2).1 x hx) (λi hi=> ?_) (λi op hi=>hM.who op (Array.mem_of_getElem? hi)) Ax E7 F9 (λb hb=>hb) D7 (λb hb=>rfl) rfl rfl rfl (XB _);obtain⟨op,A2,ha⟩:=XT.1 hi;exact(ht op (Array.mem_of_getElem? A2)).2 ha
theorem ZbJ(hv:fr.tmps.getD 2 undef=v)(hfn:fr.fn=114)(hk:fr.kind= .normal)(hm:fr.mode= .returning)(hd:fr.defers=[]):stepG Tryz.prog true (G fr (c::cs)) w= .go (G (c.finish v) cs) w #[]:=by
 have Aj:(results Tryz.f114 fr.tmps).runT Tryz.prog w #[]=(.ok v w,#[]):=by rw[<-hv];simp[results,f82_results]
 have e1:stepG Tryz.prog true (G fr (c::cs)) w=unwind Tryz.prog true fr (c::cs) none w:=by simp only[G,stepG,hm]
 rw[e1];simp only[unwind,hd,hm,hfn,Tryz.func114,Aj,doReturn,hk];simp[GStep.after,seen,G]
theorem ev82(M:Nat->Value)(k:List Item){v:Value}(h:M 2=v):({(base 114).at (ZD 23 M []) k with mode:= .returning}:Frame).tmps.getD 2 undef=v:=by
 have e:({(base 114).at (ZD 23 M []) k with mode:= .returning}:Frame).tmps=(ZD 23 M []).tmps:=rfl;rw[e,<-h];have:=congrFun (actM_eval (n:=23) (m:=M) (ds:=[])) (.tmp 2);simpa only[Act.eval,Zd,YZ (show(2:Nat)<23 by decide)] using this
theorem Zed{N:Nat}{m:Nat->Value}(h3:m 3= .pointer (some ⟨N+2,0,none⟩))(hc:w.cell? ⟨N+2,0,none⟩=some (.slice (some ⟨N+1,0,none⟩) n n))(hb:¬Sb (N+2))(A3:N+2<w.heap.size)
 (J6:∀d,Stop (c.finish (.slice (some ⟨N+1,0,none⟩) n n)) cs (w.at d)):∃K,OwnTo Tryz.prog Sb (Z8O (N+3)) Stop K ((base 114).at (ZD 23 m []) (.inRegion q9 []::kT)) (c::cs) w:=by
 have A9:(base 114).kind≠.early:=by decide
 refine own_c (λw=>XC) ?_;refine own_c (λw=>XH) ?_;refine own_c (λw=>UD) ?_;rw[q10_size];obtain⟨o,ho,hd,A2,hg⟩:=q10_0;refine own_v A9 ho hd hg (XB _) (Z6F (a:=⟨N+2,0,none⟩) A2 (.inr rfl) (by decide) h3 hc hb A3 (by show N+2≠_;omega)) ?_;obtain⟨o,ho,hd,A2,hg⟩:=q10_1;refine Z4U A9 ho hd hg (λx=>Z9U (s:=22) A2 (.inl rfl) (by decide)) ?_;refine own_c (λw=>XC) ?_;refine own_c (λw=>SB) ?_;refine own_c (λw=>ZbJ (ev82 _ _ rfl) rfl rfl rfl rfl) ?_;exact⟨0,λd=>J6 d⟩
end
end
section
open Go Go.Nk Go.RowKit Go.Conc Go.Conc.Lib
open Go.ConcN (ShN WgLive PayAt Has CTag)
open Go.Proofs.Tryq (theBan Zh Zg ZH Z0l link payload wgLib Grew Sh ShotAt Shots shO kO)
attribute [local instance] theBan
attribute [local instance] payload
theorem Zee{N n:Nat}{S:List Sh}{s:Sh}{Sb:Nat->Prop}{c:Array Value}{f f':Nat×Nat}(hj:j<n)(hs:S[j]? =some s)(hat:s.c<=90)(hS:ShotAt V sb (off+j*5) s.c s.m s.M s.wi s.li)
 (hV:V.heap[sb]? =some (.cells c e f))(har:AR ρ (Nk.Live V) c c')(Cd:ρ sb<Tryz.prog.globals.size↔sb<Tryz.prog.globals.size)(hGV:Tryz.prog.globals.size<=V.heap.size)(hGN:Tryz.prog.globals.size<=N)
 (Ga:∀b,Sb b->b<N)(Fy:¬Sb (ρ sb))(A3:ρ sb<N)
 (hI:MnI N n (Zg r0 r1 r2 r3 (ρ sb) off n cap) (λb ob=>b=ρ sb/\ob= .cells c' e f') Ik j o w)(Mh:¬Sb Ik)(Je:N+3<Ik)(hp:PayAt (N+1) n w):
 Z9l Tryz.prog link.tWg (N+3) (N+1) n Sb (ResQ (Zg r0 r1 r2 r3 (ρ sb) off n cap) r0 r1 r2 r3 S) j o (born Tryz.prog (Z8s N Ik)) w:=by
 let K:Tryw.KE:={Bx:=N,Ob:=N+2,Ik:=Ik,C:=N+1,Wg:=N+3,n:=n,k:=j,off:=off,cap:=cap,sb:=sb,r0:=r0,r1:=r1,r2:=r2,r3:=r3,s:=s,V:=V,ρ:=ρ,Sb:=Sb,Rd:=o,L:=Nk.Live V,c:=c,c':=c',e:=e,f:=f,f':=f'}
 obtain⟨hM,Q2,hIc⟩:=hI;have Bz:=hM.sh (ρ sb) _ ⟨rfl,rfl⟩;have hK:K.Ok:=by
  refine⟨hj,hat,hS,hV,har,Cd,hGV,λb hb=> ?_,λb hb=> ?_⟩
  ·show o b/\¬Sb b;have hb:b=N+2\/b=Ik\/b=N\/b=ρ sb:=hb;rcases hb with h|h|h|h
   ·rw[h];exact⟨hM.oO,λh=>by have:=Ga _ h;omega⟩
   ·rw[h];exact⟨Q2,Mh⟩
   ·rw[h];exact⟨hM.oN,λh=>by have:=Ga _ h;omega⟩
   ·rw[h];exact⟨Bz.1,Fy⟩
  ·show b≠N+1;have hb:b=N+3\/b=N+2\/b=Ik\/b=N\/b=ρ sb:=hb;omega
 have hB:Tryw.Base K (λ_=>False) w:=by
  refine⟨⟨?_,?_,⟨_,hM.box⟩,Bz.2,⟨?_,?_⟩,hM.live,hp⟩,λ_ _ h=>h⟩
  ·show w.cell? ⟨N+2,0,none⟩=_;simp only[World.cell?,hM.out];rfl
  ·show w.cell? ⟨Ik,0,none⟩=_;simp only[World.cell?,hIc];rfl
  ·have:=hM.sz;omega
  ·have:=hM.sz;show N+1<_;omega
 obtain⟨r,hr⟩:=Tryw.kid_works hK hB;refine⟨r,hr.mono (λ_ _ _ h=>h) (λ_ _ _ _ h=>h) λo g w h=> ?_⟩;obtain⟨v,⟨β,hv,h5⟩,hA⟩:=h;exact⟨v,⟨s,β,hs,hv,h5⟩,hA⟩
theorem Za4{n:Nat}(h:VRel ρ L (.agg (Zh r0 r1 r2 r3 ad n cap)) x'):x'= .agg (Zh r0 r1 r2 r3 (ad.map (Zl ρ)) n cap):=by
 cases h with
 |agg h1 h2=>
  rename_i c';congr 1;have hs':c'.size=5:=by rw[<-h1];rfl
  have key:∀(i:Nat)(v v':Value),(Zh r0 r1 r2 r3 ad n cap)[i]? =some v->c'[i]? =some v'->VRel ρ L v v':=λi v v' hv hv'=>by
   obtain⟨y,hy,hr⟩:=AR.get (⟨h1,h2⟩:AR ρ L _ _) hv;rw[hv'] at hy;cases hy;exact hr
  apply Array.ext_getElem?;intro i;rcases XY i 5 with hi|hi
  ·obtain⟨v',hv'⟩:∃v',c'[i]? =some v':=⟨_,YN (by omega)⟩;rw[hv'];obtain rfl|rfl|rfl|rfl|rfl:i=0\/i=1\/i=2\/i=3\/i=4:=by omega
   ·have:=key 0 _ _ rfl hv';cases this;rfl
   ·have:=key 1 _ _ rfl hv';cases this;rfl
   ·have:=key 2 _ _ rfl hv';cases this;rfl
   ·have:=key 3 _ _ rfl hv';cases this;rfl
   ·have:=key 4 _ _ rfl hv';cases this<;>rfl
  ·rw[Array.getElem?_eq_none (by omega),Array.getElem?_eq_none (by simp[Zh];omega)]
end
section
open Go Go.Nk Go.RowKit Go.Conc Go.Conc.Lib
open Go.ConcN (ShN WgLive PayAt Has CTag)
open Go.Proofs.Tryq (theBan Zh Zg ZH Z0l Z19 link payload wgLib Grew Sh ShotAt Shots shO kO Z0Z Z4I)
attribute [local instance] theBan
attribute [local instance] payload
theorem flat5(f:Sh->List Obj)(hf:∀s,(f s).length=5):∀(S:List Sh)(k j:Nat),j<5->(S.flatMap f)[5*k+j]? =(S[k]?).bind λs=>(f s)[j]? :=by
 intro S
 induction S with
 |nil=>intro k j _;simp
 |cons s S ih=>
  intro k j hj;rw[UE];cases k with
  |zero=>
   rw[List.getElem?_append_left (by rw[hf];omega)];simp
  |succ k=>
   rw[List.getElem?_append_right (by rw[hf];omega),hf];rw[show 5*(k+1)+j - 5=5*k+j by omega,ih k j hj];simp
theorem Zdm(cc:Array Value)(r0 r1 r2 r3:Int)(s:Sh):(shO cc r0 r1 r2 r3 s).length=5:=rfl
theorem Zef{S:List Sh}{n k:Nat}{s:Sh}(hn:S.length=n)(hs:S[k]? =some s)(hj:j<5):(kO cc r0 r1 r2 r3 S B n)[1+5*k+j]? =(shO cc r0 r1 r2 r3 s)[j]? :=by
 rw[show 1+5*k+j=(5*k+j)+1 by omega];simp only[kO,YB];rw[<-hn,UT,flat5 _ (Zdm cc r0 r1 r2 r3) S k j hj,hs];rfl
theorem Z6K{c:Array Value}(hi:∀i,i<c.size->∃k n,c.getD i undef= .int k n):AR ρ L c c:=
 ⟨rfl,λi h=>by obtain⟨k,n,e⟩:=hi i h;rw[e];exact .int k n⟩
theorem ZbK{n:Nat}(h:∀a,ad=some a->L a.block):AR ρ L (Zh r0 r1 r2 r3 ad n cap) (Zh r0 r1 r2 r3 (ad.map (Zl ρ)) n cap):=by
 have h5:VRel ρ L (.slice ad n cap) (.slice (ad.map (Zl ρ)) n cap):=by
  cases ad with
  |none=>exact .nilSlice n cap
  |some a=>exact .slice n cap (h a rfl)
 exact((((AR.nil.push (.int _ r0)).push (.int _ r1)).push (.int _ r2)).push (.int _ r3)).push h5
theorem Zdn{n:Nat}(s:Sh)(h:∀a,ad=some a->L a.block){j:Nat}{o:Obj}(hj:j<5)(ho:(shO (Zh r0 r1 r2 r3 ad n cap) r0 r1 r2 r3 s)[j]? =some o):
 ∃o',(shO (Zh r0 r1 r2 r3 (ad.map (Zl ρ)) n cap) r0 r1 r2 r3 s)[j]? =some o'/\ORel ρ L true o o':=by
 have hc:=ZbK (ρ:=ρ) (r0:=r0) (r1:=r1) (r2:=r2) (r3:=r3) (n:=n) (cap:=cap) h;obtain rfl|rfl|rfl|rfl|rfl:j=0\/j=1\/j=2\/j=3\/j=4:=by omega
 ·cases ho;exact⟨_,rfl,.cells hc λ_=>rfl⟩
 ·cases ho;exact⟨_,rfl,.cells (Z6K (Tryw.part_ints _ _ _ _ _ _ _)) λ_=>rfl⟩
 ·cases ho;exact⟨_,rfl,.cells hc λ_=>rfl⟩
 ·cases ho;refine⟨_,rfl,.cells (Z6K λi hi=> ?_) λ_=>rfl⟩;have hi:i<2:=hi;obtain rfl|rfl:i=0\/i=1:=by omega
  all_goals exact⟨_,_,rfl⟩
 ·cases ho;refine⟨_,rfl,.cells (Z6K λi hi=> ?_) λ_=>rfl⟩;have hi:i<5:=hi;obtain rfl|rfl|rfl|rfl|rfl:i=0\/i=1\/i=2\/i=3\/i=4:=by omega
  all_goals exact⟨_,_,rfl⟩
theorem ZbL{G n:Nat}{S:List Sh}{O:Nat->Nat->Prop}(hE:Emb ρ G Fz V w)(A1:S.length=n)(M7:∀a,ad=some a->Nk.Live V a.block)
 (hV:Grew V V1 (kO (Zh r0 r1 r2 r3 ad n cap) r0 r1 r2 r3 S V.heap.size n))(hW:Grew w w1 (ZdI (Zh r0 r1 r2 r3 (ad.map (Zl ρ)) n cap) w.heap.size n))(Rt:∀b,Zcs w.heap.size w1 b->w2.heap[b]? =w1.heap[b]?)(B1:w1.heap.size<=w2.heap.size)(If:∀b,Zcs w.heap.size w1 b->o2 b)
 (E7:PayAt (w.heap.size+1) n w2)(Av:∀k,k<n->∃v,Has (w.heap.size+1) k v w2/\ResQ (Zh r0 r1 r2 r3 (ad.map (Zl ρ)) n cap) r0 r1 r2 r3 S k (O k) v w2)
 (hO:∀k,k<n->∀b,O k b->b<w2.heap.size/\b≠w.heap.size+3/\b≠w.heap.size+1/\¬o2 b)(Lm:∀k k',k<n->k'<n->k≠k'->∀b,O k b->¬O k' b):
 ∃ρ1:Nat->Nat,(∀b,Nk.Live V b->ρ1 b=ρ b)/\ρ1 V.heap.size=w.heap.size+1/\Emb ρ1 G Fz V1 w2/\(∀b,Nk.Live V b->Nk.Live V1 b)/\(∀b,Nk.Live V1 b->Nk.Live V b\/(w.heap.size<=ρ1 b/\ρ1 b≠w.heap.size+3))/\Nk.Live V1 V.heap.size/\(∀(b:Nat)(l:Loop),V1.heap[b]? =some (Obj.loop l)->V.heap[b]? =some (Obj.loop l)):=by
 classical
 have hk:∀k,∃β:Nat->Nat,k<n->Has (w.heap.size+1) k (.pointer (some ⟨β 1,0,none⟩)) w2/\∃s,S[k]? =some s/\Tryw.Five (Zh r0 r1 r2 r3 (ad.map (Zl ρ)) n cap) r0 r1 r2 r3 s (O k) β w2:=by
  intro k;by_cases Ct:k<n
  ·obtain⟨v,h1,s,β,h2,h3,h4⟩:=Av k Ct;subst h3;exact⟨β,λ_=>⟨h1,s,h2,h4⟩⟩
  ·exact⟨id,λh=>absurd h Ct⟩
 let β:Nat->Nat->Nat:=λk=>Classical.choose (hk k)
 have hβ:∀k,k<n->Has (w.heap.size+1) k (.pointer (some ⟨β k 1,0,none⟩)) w2/\∃s,S[k]? =some s/\Tryw.Five (Zh r0 r1 r2 r3 (ad.map (Zl ρ)) n cap) r0 r1 r2 r3 s (O k) (β k) w2:=λk Ct=>RM (hk k) Ct
 clear_value β
 have Dh:w1.heap.size=w.heap.size+4:=hW.size;have B9:∀k j,k<n->j<5->w.heap.size+4<=β k j/\β k j<w2.heap.size:=by
  intro k j Ct hj;obtain⟨_,s,_,h5⟩:=hβ k Ct;obtain⟨h1,h2,h3,h4⟩:=hO k Ct _ (h5.1 j hj);refine⟨Nat.le_of_not_lt λA3=>h4 (If _ ⟨by omega,h3,h2⟩),h1⟩
 let ρ1:Nat->Nat:=λb=>if b<V.heap.size then ρ b else if b=V.heap.size then w.heap.size+1 else β ((b - V.heap.size - 1) / 5) ((b - V.heap.size - 1) % 5)
 have e0:∀b,b<V.heap.size->ρ1 b=ρ b:=λb hb=>YZ hb
 have e1:ρ1 V.heap.size=w.heap.size+1:=by
  show(if V.heap.size<V.heap.size then _ else if V.heap.size=V.heap.size then _ else _)=_;rw[XA (by omega),YZ rfl]
 have e2:∀k j,j<5->ρ1 (V.heap.size+(1+5*k+j))=β k j:=by
  intro k j hj;show(if _ then _ else if _ then _ else _)=_;rw[XA (by omega),XA (by omega)];rw[show V.heap.size+(1+5*k+j) - V.heap.size - 1=5*k+j by omega,show(5*k+j) / 5=k by omega,show(5*k+j) % 5=j by omega]
 clear_value ρ1
 have hsV:V1.heap.size=V.heap.size+(1+5*n):=by rw[hV.size,Z0Z _ _ _ _ _ _ _ _ (by omega)]
 have V8:∀b,Nk.Live V b->Nk.Live V1 b:=by
  rintro b ⟨o,h1,h2⟩;exact⟨o,(hV.old b (YF.1 h1).1).trans h1,h2⟩
 have hm:∀b,Nk.Live V b->Nk.Live V1 b/\ρ1 b=ρ b:=λb hb=>⟨V8 b hb,e0 b hb.lt⟩
 have cases1:∀b,b<V1.heap.size->b<V.heap.size\/b=V.heap.size\/∃k j,k<n/\j<5/\b=V.heap.size+(1+5*k+j):=by
  intro b hb;rcases QE b V.heap.size with h|h|h
  ·exact .inl h
  ·exact .inr (.inl h)
  ·exact .inr (.inr ⟨(b - V.heap.size - 1) / 5,(b - V.heap.size - 1) % 5,by omega,by omega,by omega⟩)
 have newS:V1.heap[V.heap.size]? =some (.cells (ZH V.heap.size n n) 188):=by
  have:=hV.new 0 (by rw[Z0Z _ _ _ _ _ _ _ _ (by omega)];omega);rw[RV] at this;rw[this,<-A1];simp only[kO,YA]
 have newK:∀k j s,k<n->j<5->S[k]? =some s->V1.heap[V.heap.size+(1+5*k+j)]? =(shO (Zh r0 r1 r2 r3 ad n cap) r0 r1 r2 r3 s)[j]? :=by
  intro k j s Ct hj hs;rw[hV.new _ (by rw[Z0Z _ _ _ _ _ _ _ _ (by omega)];omega),Zef A1 hs hj]
 have liveK:∀k j,k<n->j<5->Nk.Live V1 (V.heap.size+(1+5*k+j)):=by
  intro k j Ct hj;obtain⟨_,s,hs,_⟩:=hβ k Ct;have h1:=newK k j s Ct hj hs;obtain rfl|rfl|rfl|rfl|rfl:j=0\/j=1\/j=2\/j=3\/j=4:=by omega
  all_goals exact⟨_,h1,rfl⟩
 have oldlt:∀b,Nk.Live V b->ρ b<w.heap.size:=by
  rintro b ⟨o,h1,h2⟩;obtain⟨o',h3,_⟩:=hE.obj b o h1 h2;exact(YF.1 h3).1
 have livelt:∀b,Nk.Live V1 b->b<V1.heap.size:=λb hb=>hb.lt
 have liveOld:∀b,Nk.Live V1 b->b<V.heap.size->Nk.Live V b:=by
  rintro b ⟨o,h1,h2⟩ hb;exact⟨o,(hV.old b hb).symm.trans h1,h2⟩
 have adEq:ad.map (Zl ρ1)=ad.map (Zl ρ):=by
  cases ad with
  |none=>rfl
  |some a=>simp[Zl,(hm _ (M7 a rfl)).2]
 refine⟨ρ1,λb hb=>(hm b hb).2,e1,⟨λb o hb hl=> ?_,λb b' hb hb' he=> ?_,λb hb=>by have:=hE.fz b hb;omega,λb hb=> ?_,by have:=hE.gV;omega,by have:=hE.gw;omega⟩,V8,λb hb=> ?_,⟨_,newS,rfl⟩,λb l hb=> ?_⟩
 ·rcases cases1 b (YF.1 hb).1 with h|rfl|⟨k,j,Ct,hj,rfl⟩
  ·rw[hV.old b h] at hb;obtain⟨o',h1,h2,h3⟩:=hE.obj b o hb hl;have A3:ρ b<w.heap.size:=(YF.1 h1).1;refine⟨o',?_,λhz=>(h2 hz).mono hm,λhz=>⟨(h3 hz).1.mono hm,(h3 hz).2⟩⟩;rw[e0 b h,Rt _ ⟨by omega,by omega,by omega⟩,hW.old _ A3];exact h1
  ·rw[newS] at hb;cases hb;obtain⟨arr,Ep,J4⟩:=E7;refine⟨.cells arr 188,by rw[e1];exact Ep,λ_=> .cells ?_ (λ_=>rfl),λh=>absurd (hE.fz _ h) (by omega)⟩;refine AR.mk (by rw[Z0l,J4]) λi v v' hv hv'=> ?_
   have Ao:i<n:=by have:=(YF.1 hv).1;rwa [Z0l] at this
   rw[Z19 Ao,YZ Ao] at hv;cases hv;have h3:=(hβ i Ao).1;unfold Has at h3;simp only[World.cell?,Ep] at h3;have h3:arr[i]? =some (.pointer (some ⟨β i 1,0,none⟩)):=h3;rw[h3] at hv';cases hv';have:=VRel.ptr (ρ:=ρ1) (L:=Nk.Live V1) (a:=⟨V.heap.size+(1+5*i+1),0,none⟩) (liveK i 1 Ao (by omega));simp only[Zl,e2 i 1 (by omega)] at this;rw[show V.heap.size+1+5*i+1=V.heap.size+(1+5*i+1) by omega];exact this
  ·obtain⟨_,s,hs,h5⟩:=hβ k Ct;rw[newK k j s Ct hj hs] at hb;obtain⟨o',h1,h2⟩:=Zdn (ρ:=ρ1) (L:=Nk.Live V1) s (λa ha=>V8 _ (M7 a ha)) hj hb;rw[adEq] at h1;exact⟨o',by rw[e2 k j hj,h5.2.1 j hj];exact h1,λ_=>h2,λh=>absurd (hE.fz _ h) (by omega)⟩
 ·have As:=livelt b hb;have Oe:=livelt b' hb';rcases cases1 b As with h|rfl|⟨k,j,Ct,hj,rfl⟩
  ·have Ru:=liveOld b hb h;have A3:=oldlt b Ru;rw[e0 b h] at he;rcases cases1 b' Oe with h'|rfl|⟨k',j',I6,hj',rfl⟩
   ·rw[e0 b' h'] at he;exact hE.inj b b' Ru (liveOld b' hb' h') he
   ·rw[e1] at he;omega
   ·rw[e2 k' j' hj'] at he;have:=B9 k' j' I6 hj';omega
  ·rw[e1] at he;rcases cases1 b' Oe with h'|rfl|⟨k',j',I6,hj',rfl⟩
   ·rw[e0 b' h'] at he;have:=oldlt b' (liveOld b' hb' h');omega
   ·rfl
   ·rw[e2 k' j' hj'] at he;have:=B9 k' j' I6 hj';omega
  ·rw[e2 k j hj] at he;have Rv:=B9 k j Ct hj;rcases cases1 b' Oe with h'|rfl|⟨k',j',I6,hj',rfl⟩
   ·rw[e0 b' h'] at he;have:=oldlt b' (liveOld b' hb' h');omega
   ·rw[e1] at he;omega
   ·rw[e2 k' j' hj'] at he;obtain⟨_,s,_,h5⟩:=hβ k Ct;obtain⟨_,s',_,h5'⟩:=hβ k' I6;by_cases hkk:k=k'
    ·subst hkk;have:=h5.2.2 j j' hj hj' he;subst this;rfl
    ·exact(Lm k k' Ct I6 hkk _ (h5.1 j hj) (by rw[he];exact h5'.1 j' hj')).elim
 ·have hgV:=hE.gV;have hgw:=hE.gw;rcases cases1 b (livelt b hb) with h|rfl|⟨k,j,Ct,hj,rfl⟩
  ·rw[e0 b h];exact hE.low b (liveOld b hb h)
  ·rw[e1];omega
  ·rw[e2 k j hj];have:=B9 k j Ct hj;omega
 ·rcases cases1 b (livelt b hb) with h|rfl|⟨k,j,Ct,hj,rfl⟩
  ·exact .inl (liveOld b hb h)
  ·right;rw[e1];omega
  ·right
   rw[e2 k j hj];have:=B9 k j Ct hj;omega
 ·rcases cases1 b (YF.1 hb).1 with h|rfl|⟨k,j,Ct,hj,rfl⟩
  ·exact(hV.old b h).symm.trans hb
  ·rw[newS] at hb;cases hb
  ·obtain⟨_,s,hs,_⟩:=hβ k Ct;rw[newK k j s Ct hj hs] at hb;obtain rfl|rfl|rfl|rfl|rfl:j=0\/j=1\/j=2\/j=3\/j=4:=by omega
   all_goals cases hb
theorem Zdo{Sb:Nat->Prop}{X:MemAct->Prop}:∀{n:Nat}{fr:Frame}{cs:List Frame}{w:World},OwnTo P Sb X Stop n fr cs w->OwnTo P Sb (λ_=>True) Stop n fr cs w:=by
 intro n
 induction n with
 |zero=>exact λh=>h
 |succ n ih=>
  intro fr cs w h d;obtain⟨fr1,cs1,w1,es,h1,h2,h3,h4⟩:=h d;exact⟨fr1,cs1,w1,es,h1,h2,λe he=>⟨(h3 e he).1,trivial⟩,ih h4⟩
theorem Zeg{G:Nat}(h:Emb ρ G Fz V w)(d:Nat):Emb ρ G Fz V (w.at d):=⟨h.obj,h.inj,h.fz,h.low,h.gV,h.gw⟩
theorem kids[Tryq.GK]{E:Frame->List Frame->World->Prop}{bot':List Frame}{w0:World}{ρ:Nat->Nat}{Sb:Nat->Prop}{fr fr':Frame}{cs cs':List Frame}{V w:World}(hR:RelM Tryz.prog Tryq.fs Tryq.GK.gk bot' w0 ρ Sb fr cs V fr' cs' w)
 {r0 r1 r2 r3:Int}{ad:Option Addr}{n cap:Nat}{S:List Sh}(A1:S.length=n)(hS:Shots V ad S):
 ∃sh:Nat->Obj->Prop,(∀b ob,sh b ob->b<w.heap.size/\w.heap[b]? =some ob)/\∀j o w1 Ik,j<n->MnI w.heap.size n (Zh r0 r1 r2 r3 (ad.map (Zl ρ)) n cap) sh Ik j o w1->¬Sb Ik->w.heap.size+3<Ik->(∀b,Sb b->b<w.heap.size)->PayAt (w.heap.size+1) n w1->
  Z9l Tryz.prog link.tWg (w.heap.size+3) (w.heap.size+1) n Sb (ResQ (Zh r0 r1 r2 r3 (ad.map (Zl ρ)) n cap) r0 r1 r2 r3 S) j o (born Tryz.prog (Z8s w.heap.size Ik)) w1:=by
 rcases TO n with rfl|D1
 ·exact⟨λ_ _=>False,λ_ _ h=>h.elim,λj o w1 Ik hj=>by omega⟩
 ·obtain⟨s0,Gb⟩:∃s,S[0]? =some s:=⟨_,YH (by omega)⟩;obtain⟨sb,off,rfl,Fy,_,Xg⟩:=hS 0 s0 Gb;obtain⟨c,e,f,hV⟩:∃c e f,V.heap[sb]? =some (.cells c e f):=by
   have:=Xg.c0;unfold World.cell? at this;split at this
   ·rename_i c e f h;exact⟨c,e,f,h⟩
   ·cases this
  obtain⟨o',hw,ho,hq⟩:=hR.emb.obj sb _ hV rfl;have ho:ORel ρ (Nk.Live V) false (.cells c e f) o':=by
   by_cases hz:Tryq.GK.gk sb=true
   ·exact(hq hz).1
   ·exact(ho hz).weaken
  clear hq;cases ho with
  |cells har hf=>
   rename_i c' f';have A3:ρ sb<w.heap.size:=(YF.1 hw).1;refine⟨λb ob=>b=ρ sb/\ob= .cells c' e f',λb ob h=> ?_,λj o w1 Ik hj hI Mh Je I3 hp=> ?_⟩
   ·rw[h.1,h.2];exact⟨A3,hw⟩
   ·obtain⟨s,hs⟩:∃s,S[j]? =some s:=⟨_,YH (by omega)⟩;obtain⟨b,off',eb,_,hc,Bz⟩:=hS j s hs;cases eb;exact Zee hj hs hc Bz hV har (hR.emb.low sb ⟨_,hV,rfl⟩) hR.emb.gV hR.emb.gw I3 (hR.shun sb ⟨_,hV,rfl⟩) A3 hI Mh Je hp
theorem ZbM{fs:Array Func}{Gs:Nat->Bool}{bot:List Frame}(h:CsR P fs Gs ρ L bot bot' cs cs')(A9:cs≠bot):
 ∃c c' cs0 cs0',cs=c::cs0/\cs'=c'::cs0'/\FrR P fs Gs ρ L c c'/\(cs0=bot->c.roundOf=none)/\CsR P fs Gs ρ L bot bot' cs0 cs0':=by
 cases h with
 |nil=>exact absurd rfl A9
 |cons h1 h2 h3=>exact⟨_,_,_,_,rfl,rfl,h1,h2,h3⟩
theorem Zeh{fs:Array Func}{Gs:Nat->Bool}(h:CsR P fs Gs ρ L (b::bs) bot' cs cs'):cs≠[]:=by
 cases h<;>simp
theorem phase82[Tryq.GK]{E:Frame->List Frame->World->Prop}(hE:IsEnd E)(bot':List Frame)(w0:World):Zbd Tryz.prog Tryq.fs Tryq.GK.gk E bot' w0:=by
 intro f a a' cs cs' V ρ Sb gs w sl t q Hx G2 Xh har Ag hH hR hM;have hf:f=114:=by
  rcases Tryq.ent_kept G2 with h|h
  ·exact absurd (Tryq.tmK h) Hx
  ·exact h
 subst hf;have ha:a.size=1:=Xh rfl;obtain⟨x,rfl⟩:∃x,a= #[x]:=⟨a[0],by apply QQ;simp[ha];intro i h1 h2;simp at h2;subst h2;rfl⟩
 obtain⟨x',rfl⟩:∃x',a'= #[x']:=⟨a'[0]'(by rw[<-har.1];simp),by
  have:a'.size=1:=by rw[<-har.1];rfl
  apply QQ;simp[this];intro i h1 h2;simp at h2;subst h2;rfl⟩
 have hx:VRel ρ (Nk.Live V) x x':=har.2 0 (by simp);have B0:=hR.self;have Hn:VRel id (Nk.Live V) x x:=by
  have:=B0.fro.tmps.at 0;rw[Tryq.enterK] at this;exact this
 obtain⟨r0,r1,r2,r3,ad,n,cap,S,rfl,A1,hn,Jg⟩:=Tryq.pre_k hE Ag Hn ⟨hH,B0,λg hg=>(hR.glob g hg).1,Ag⟩;have hx':=Za4 hx;subst hx';have M7:∀a,ad=some a->Nk.Live V a.block:=by
  rintro a rfl;cases Hn with
  |agg h1 h2=>
   have:=h2 4 (by simp[Zh]);simp only[Zh] at this;cases this with
   |slice l c h=>exact h
 obtain⟨c,c',cs0,cs0',rfl,rfl,hfc,hrc,Rw⟩:=ZbM hR.cso Ag;have Ga:∀b,Sb b->b<w.heap.size:=hR.sbl;obtain⟨sh,Bz,Jf⟩:=kids (E:=E) (r0:=r0) (r1:=r1) (r2:=r2) (r3:=r3) (cap:=cap) hR A1 Jg
 obtain⟨K0,Fb⟩:=pre82 (Sb:=Sb) (cs:=c'::cs0') (w:=w) (cc:=Zh r0 r1 r2 r3 (ad.map (Zl ρ)) n cap) (Stop:=λfr cs w1=>∃m,fr=(base 114).at (ZD 23 m []) (.code L82::kL)/\cs=c'::cs0'/\Hm w.heap.size n 0 m/\Grew w w1 (ZdI (Zh r0 r1 r2 r3 (ad.map (Zl ρ)) n cap) w.heap.size n)) hn rfl Ga
  (λm w1 hG h1 h3 h4 h14 h15=>⟨m,rfl,rfl,⟨h1,h3,h4,h14,h15⟩,hG⟩)
 obtain⟨N1,t1,fr1,cs1,gs1,w1,sl1,q1,Rx,⟨m1,rfl,rfl,Ee,Er⟩,Gm,Hu⟩:=Z7y (sl:=sl) (λe he=>Za3 he _) K0 Fb hM (λop A2=>Z7B (hM.past.seen op A2) (by omega));obtain⟨N2,m2,t2,Ry,hF⟩:=Zdl (sl:=sl1) (cs:=c'::cs0') (sh:=sh) hn Ga Er Ee Gm Hu Bz (Zdk _ _ _ _ _ S) Jf;obtain⟨gs2,w2,sl2,a2,o2,O,q2,rfl,Vh,⟨m3,Nv,rfl,Vi⟩,R3,Av,hO,Lm,E7,A6,Q3,Vj,Xi⟩:=hF;have Dh:w1.heap.size=w.heap.size+4:=Er.size;have Rb:MacM Tryz.prog (λb=>Sb b\/b=w.heap.size+3) ((base 114).at (ZD 23 m3 []) (.inRegion q9 []::kT)) (c'::cs0') gs2 w2 t2 q2:=⟨Vh,Q3,Vj,Xi⟩;have Xj:¬(Sb (w.heap.size+2)\/w.heap.size+2=w.heap.size+3):=by
  rintro(h|h)
  ·have:=Ga _ h;omega
  ·omega
 obtain⟨K3,Rz⟩:=Zed (n:=n) (Sb:=λb=>Sb b\/b=w.heap.size+3) (cs:=cs0') (c:=c') (N:=w.heap.size) (w:=w2) (m:=m3) (Stop:=λfr cs w3=>fr=c'.finish (.slice (some ⟨w.heap.size+1,0,none⟩) n n)/\cs=cs0'/\∃d,w3=w2.at d) Nv.t3 (by simp only[World.cell?,Vi.out];rfl) Xj (by have:=Vi.sz;omega) (λd=>⟨rfl,rfl,d,rfl⟩);obtain⟨N3,t3,fr3,cs3,gs3,w3,sl3,q3,S2,⟨rfl,rfl,d,rfl⟩,D5,_⟩:=Z7y (sl:=sl2) (X:=λ_=>True) (λ_ _=>trivial) K3 (Zdo Rz) Rb (λ_ _=>trivial);obtain⟨N4,S3⟩:=Nk.runNT_add Rx Ry;obtain⟨N5,S4⟩:=Nk.runNT_add S3 S2;have H5:=Tryq.curves_any r0 r1 r2 r3 ad cap V S n A1 hn Jg;obtain⟨e,V1,fr,⟨rfl,hGV⟩,⟨k,Aj⟩,hfn,E2⟩:=H5 (c::cs0);have S5:runN (Z6 Tryz.prog Tryq.fs) (k+1) (lone (Frame.enter (Z6 Tryz.prog Tryq.fs) 114 #[.agg (Zh r0 r1 r2 r3 ad n cap)] .normal) (c::cs0) V)= .next (lone (c.finish (.slice (some ⟨V.heap.size,0,none⟩) n n)) cs0 V1):=by
  have h1:runN (Z6 Tryz.prog Tryq.fs) k (lone (Frame.enter (Z6 Tryz.prog Tryq.fs) 114 #[.agg (Zh r0 r1 r2 r3 ad n cap)] .normal) (c::cs0) V)= .next (lone fr (c::cs0) V1):=Aj;have h2:step (Z6 Tryz.prog Tryq.fs) (lone fr (c::cs0) V1)= .next (lone (c.finish (.slice (some ⟨V.heap.size,0,none⟩) n n)) cs0 V1):=step_leave_returned E2;rw[runN_add,h1];simp only[runN,h2]
 obtain⟨Iu,Cr⟩:=Z6A Tryq.soloK hE (k+1) hH B0 (λg hg=>(hR.glob g hg).1) S5 (Zeh Rw);obtain⟨ρ1,B6,Bn,Hy,Kg,Cs,Of,S6⟩:=ZbL (w2:=w2) (o2:=o2) (O:=O) hR.emb A1 M7 hGV Er (λb hb=>(A6.old b hb).2) A6.size R3 E7 Av hO Lm;have hm:∀b,Nk.Live V b->Nk.Live V1 b/\ρ1 b=ρ b:=λb hb=>⟨Kg b hb,B6 b hb⟩
 have hv:VRel ρ1 (Nk.Live V1) (.slice (some ⟨V.heap.size,0,none⟩) n n) (.slice (some ⟨w.heap.size+1,0,none⟩) n n):=by
  have:=VRel.slice (ρ:=ρ1) (a:=⟨V.heap.size,0,none⟩) n n Of;simp only[Zl,Bn] at this;exact this
 have S7:=(hfc.mono hm).finish hv;have oldlt:∀b,Nk.Live V b->ρ b<w.heap.size:=by
  rintro b ⟨o,h1,h2⟩;obtain⟨o',h3,_⟩:=hR.emb.obj b o h1 h2;exact(YF.1 h3).1
 refine⟨N5,_,t3,ρ1,λb=>Sb b\/b=w.heap.size+3,_,cs0,V1,_,_,gs3,w2.at d,sl3,q3,S4,rfl,Iu,λh=>by have:=SG List.length h;simp at this,?_,D5⟩;refine⟨Cr,.own S7,Rw.mono hm,λ_=>S7,λh=>(Z0w _ _).trans (hrc h),Zeg Hy d,λb l hb=>hR.loops b l (S6 b l hb),λg hg=>⟨Kg g (hR.glob g hg).1,(B6 g (hR.glob g hg).1).trans (hR.glob g hg).2⟩,λb hb hs=> ?_,λb hb=> ?_,λb hb=> ?_,λb hb hg=> ?_,?_,?_,?_,?_⟩
 ·rcases Cs b hb with h|⟨h1,h2⟩
  ·rw[B6 b h] at hs;rcases hs with hs|hs
   ·exact hR.shun b h hs
   ·have:=oldlt b h;omega
  ·rcases hs with hs|hs
   ·have:=Ga _ hs;omega
   ·exact h2 hs
 ·show b<w2.heap.size;have:=A6.size;rcases hb with hb|hb
  ·have:=Ga b hb;omega
  ·omega
 ·have A3:b<w.heap.size:=YS hb hR.grown;have B1:=Er.size;exact((A6.old b ⟨by omega,by omega,by omega⟩).2.trans (Er.old b A3)).trans (hR.old b hb)
 ·rcases Cs b hb with h|⟨h1,_⟩
  ·rw[B6 b h];exact hR.far b h hg
  ·have:=hR.grown;omega
 ·show w0.heap.size<=w2.heap.size;have:=A6.size;have:=hR.grown;omega
 ·exact A6.tape.trans (Er.tape.trans hR.tape)
 ·exact A6.os.trans (Er.oss.trans hR.os)
 ·exact A6.output.trans (Er.output.trans hR.output)
end
end Go.Proofs.Tryv
section
namespace Go.Nk
open Go Go.RowKit Go.ChangeShapes Go.WideShapes Go.Conc
open Go.Proofs.Tryq (isS isA Z3z)
section
variable {r:Reach}{base:Nat}
theorem Zdp{a:Addr}{n:Nat}(h:w.has P r base a e n):Z1s w a.block=true:=by
 obtain⟨_,_,row,cells,h,_⟩:=h;unfold World.shape? at h;split at h
 ·rename_i c t f hh;unfold Z1s;rw[hh]
 ·cases h
theorem Z8u{a:Addr}{c:Nat}(h:Cell.okWide P w r base u (.slice (some a) l c)):Z1s w a.block=true:=by
 unfold Cell.okWide at h;split at h
 ·rename_i h1;cases h1
 ·rename_i h1;cases h1
 ·rename_i h1;cases h1
 ·rename_i h1;cases h1
 ·rename_i h1;cases h1
 ·rename_i h1;cases h1
 ·rename_i h1;cases h1
 ·unfold Cell.ok at h;split at h<;>first|(rename_i h1;cases h1;first|done|exact Zdp h.2.2)|(exact False.elim h)
theorem ZiU{t:TypeId}(h:Value.okWide P w r base t v)(hs:isS P t=true):∃cs,v= .agg cs/\cs.size=P.cellsOf t/\∀(i:Nat)(x:Value),cs[i]? =some x->∃u,Cell.okWide P w r base u x:=by
 obtain⟨fs,hu⟩:=Z3z hs;unfold Value.okWide at h;rw[hu] at h;obtain⟨cs,h1,h2,ts,_,_,h3⟩:=h;exact⟨cs,h1,h2,λi x hx=>by obtain⟨u,_,hu⟩:=h3 i x hx;exact⟨u,hu⟩⟩
end
theorem Z4X{H:Type}{enc:TypeId×Value->H}(hl:laidOutB P=true){W W':World}(hb:Below W.heap.size W W'):∀{ts:List TypeId}{vs:List Value}{ds:List (DataW H)}{p:List MemPlace},
 (ts.all λt=>P.readableRec t&&decide (t<P.types.size))=true->DataW.TrodAll enc P W 0 (λ_=>true) true ts vs ds p->(∀x∈p,x.block<W.heap.size)->DataW.TrodAll enc P W' 0 (λb=>decide (b<W.heap.size)) true ts vs ds p:=by
 intro ts
 induction ts with
 |nil=>
  intro vs ds p _ h _;cases vs<;>cases ds<;>first|exact h|exact h.elim
 |cons t ts ih=>
  intro vs ds p hr h A3;cases vs<;>cases ds<;>first|exact h.elim|skip
  rename_i v vs d ds;obtain⟨p1,q1,h1,h2,rfl⟩:=h;simp only[QI,YG,XG] at hr;exact⟨p1,q1,Below.trod hl hr.1.1 hr.1.2 h1 hb (λx hx=>A3 x (RP _ hx)),ih hr.2 h2 (λx hx=>A3 x (List.mem_append_right _ hx)),rfl⟩
theorem Z3E{H:Type}{enc:TypeId×Value->H}{a:Assume}{C:Checked}{os:Os}{s:ChangeSpec}{conds:List PathCond}{L:List (String×DataW Unit)}
 (own:ownKnob C.prog.godebug=none)(started:os.Started)(hfn:C.prog.funcs[f]? =some fn)
 (witness:∃(w:World)(tape:Tape)(i:Input),w.os=os/\(w.forCall tape i).Shaped C.prog/\i.vars=[]/\Input.okWide C.prog (w.forCall tape i) .any w.heap.size f i/\
   ((s.pre enc C.prog fn conds apart (w.forCall tape i).memory i.args/\laidMetH C.prog L (w.forCall tape i).memory)/\sizedMet enc C.prog fn (OpenSpec.ofChange s) apart (w.forCall tape i).memory i.args)/\a.holds C.prog (lone (Frame.enter C.prog f i.args .normal) [] (w.forCall tape i)))
 (runs:∀(W:World)(base:Nat)(args:Array Value)(ds gs:List (DataW H))(before:List MemPlace),W.ShapedOpen C.prog->
   (∀(j:Nat) t v,fn.params[j]? =some t->args[j]? =some v->Value.okWide C.prog W .any base t v)->
   DataW.Whole enc C.prog fn.params.toList s.vars apart W args.toList ds gs before->laidMetH C.prog L W->
   ∃M last o w' t',runNT C.prog (M+1) (solo (G (Frame.enter C.prog f args .normal) []) W) #[]=(.ended o w',t')/\runN C.prog M (solo (G (Frame.enter C.prog f args .normal) []) W)= .next last/\
    step C.prog last= .ended o w'/\Conc.Good C.prog (λv W'=>s.post enc C.prog fn apart fresh Ho again W args v W') last o w' t'):
 ReturnsInLeavingWide a C os f .any (λw args=>(s.pre enc C.prog fn conds apart w args/\laidMetH C.prog L w)/\sizedMet enc C.prog fn (OpenSpec.ofChange s) apart w args) (s.post enc C.prog fn apart fresh Ho again):=by
 refine returnsInLeavingWide_of_good own started witness ?_;intro w tape i _ Bz _ Bq Fb Xk;obtain⟨_,_,_,fn',Og,_,_,_,_,H9⟩:=Bq;have e:fn'=fn:=YT (Og.symm.trans hfn);subst e;obtain⟨⟨⟨ds,gs,before,hw,_⟩,hL⟩,_⟩:=Fb;have hw':=DataW.Whole.of_heap (w':=w.forCall tape i) (by rfl) hw;have hL':laidMetH C.prog L (w.forCall tape i):=laidMetH.of_heap (by rfl) hL;obtain⟨M,last,o,w',t',h1,h2,h3,h4⟩:=runs (w.forCall tape i) w.heap.size i.args ds gs before Bz H9 hw' hL';exact⟨M,last,o,w',t',h1,h2,h3,h4.mono λv hp=>ChangeSpec.post_blind hp⟩
end Go.Nk
namespace Go.Proofs.Tryq
open Go Go.Nk Go.RowKit Go.ChangeShapes Go.WideShapes Go.ChangeAt Go.Conc
attribute [local instance] theBan
theorem globals4:Tryz.prog.globals.size=12:=by kernel_rfl
theorem Za5(h:Meas W):Meas (Zx W):=λi hi=>Z0d rfl (h i hi) (by
 obtain rfl|rfl|rfl|rfl|rfl|rfl:i=0\/i=1\/i=2\/i=3\/i=4\/i=5:=by omega
 all_goals rfl)
theorem Za6(h:Most W):Most (Zx W):=⟨Z0d rfl h.m0 rfl,Z0d rfl h.m1 rfl⟩
theorem ZbN(h:Deb W):Deb (Zx W):=λi hi=>Z0d rfl (h i hi) rfl
theorem Za7(t)(h:Most W):Most (retape t W):=⟨h.m0,h.m1⟩
noncomputable def entB(i:Nat):Bool:=match fs[i]?,Tryz.prog.funcs[i]? with
 |some a,some b=>a.body.isSome&&b.body.isSome&& !(a.name== "runtime.NumGoroutine")&& !(b.name== "runtime.NumGoroutine")
 |_,_=>false
theorem Zek(h:entB f=true):Ent Tryz.prog fs f:=by
 unfold entB at h;split at h
 ·rename_i a b ha hb;simp only[YG,XR] at h;exact⟨a,b,ha,hb,h.1.1.1,h.1.1.2,h.1.2,h.2⟩
 ·cases h
theorem Zdq(h:entB f=true):Ent (Z6 Tryz.prog fs) fs f:=by
 obtain⟨a,b,ha,hb,h1,h2,h3,h4⟩:=Zek h;exact⟨a,a,ha,ha,h1,h1,h3,h3⟩
end Go.Proofs.Tryq
end
namespace Go.Proofs.Tryq
open Go Go.Nk Go.RowKit Go.ChangeShapes Go.WideShapes Go.ChangeAt Go.Conc Go.Deep
attribute [local instance] theBan
theorem Zaa{α:Type}{p:Nat->α->Prop}:∀(n:Nat),(∀i,i<n->∃x,p i x)->∃L:List α,L.length=n/\∀(i:Nat)(x:α),L[i]? =some x->p i x:=by
 intro n
 induction n with
 |zero=>exact λ_=>⟨[],rfl,λi x h=>by simp at h⟩
 |succ n ih=>
  intro h;obtain⟨L,h1,h2⟩:=ih λi hi=>h i (by omega)
  obtain⟨x,hx⟩:=h n (by omega);refine⟨L++[x],by simp[h1],λi y hy=> ?_⟩;rw[List.getElem?_append] at hy;split at hy
  ·exact h2 i y hy
  ·rename_i A3;have:i=n:=by
    have:=(YI.1 hy).1;simp at this;omega
   subst this;rw[h1,Nat.sub_self] at hy;cases hy;exact hx
section
variable {H:Type}{enc:TypeId×Value->H}
theorem Zct(b off i:Nat):(⟨b,off,none⟩:Addr).add i=⟨b,off+i,none⟩:=by
 unfold Addr.add;split
 ·rename_i h;rw[h];rfl
 ·rfl
theorem Z5V{u e c:Nat}{k:Nat}{x:DataW H×List MemPlace}(hu:Tryz.prog.underlying u=some (.slice e))(hc:Tryz.prog.cellsOf e=c)(D1:0<c)(hv:∃u,Cell.okWide Tryz.prog W .any b0 u v)(h:DataW.trod enc Tryz.prog W 0 (λ_=>true) true k u [v]=some x):
 ∃(base:Option Addr)(n cap:Nat),v= .slice base n cap/\n<=cap/\cap<=maxLen/\VRel id (Nk.Live (Zx W)) v v/\
  ∀i,i<n->∃b off,base=some ⟨b,off,none⟩/\b<W.heap.size/\∃cs:List Value,cs.length=c/\(∀j,j<c->W.cell? ⟨b,off+i*c+j,none⟩=cs[j]?)/\∃m y,DataW.trod enc Tryz.prog W 0 (λ_=>true) true m e cs=some y:=by
 rcases open_slice hu h with⟨h1,_⟩|⟨a,len,cap,m,q,D,Pl,h1,_,hl,hm,Pv,_,Q4⟩
 ·simp only[SH,and_true] at h1;subst h1;exact⟨none,0,0,rfl,XB _,by decide,.nilSlice _ _,λi hi=>by omega⟩
 ·simp only[SH,and_true] at h1;subst h1;obtain⟨u',hv⟩:=hv;have Af:=Z8u hv;refine⟨some a,len,cap,rfl,hl,hm,.slice (ρ:=id) _ _ (Z8g.1 Af),λi hi=> ?_⟩;simp only[XQ] at Pv;obtain⟨cs,h2,h3⟩:=Q4 i (by omega);rw[hc] at h2;obtain⟨_,h4,h5⟩:=World.cells?_some h2;obtain⟨b,off,spot⟩:=a;have D7:spot=none:=by
   obtain⟨cs0,k2,_⟩:=Q4 0 (by omega);rw[hc] at k2;obtain⟨_,k4,k5⟩:=World.cells?_some k2;have k6:=k5 0 D1;rw[YH (by omega)] at k6;simpa[Addr.add] using World.cell?_spot k6
  subst D7;have A3:b<W.heap.size:=by
   obtain⟨_,_,_,h⟩:=Z9A.1 Af;exact(YF.1 h).1
  exact⟨b,off,rfl,A3,cs,h4,λj hj=>by have:=h5 j hj;rwa [Zct,Zct] at this,q,_,h3⟩
theorem under24:Tryz.prog.underlying 24=some (.slice 51):=by kernel_rfl
theorem under9:Tryz.prog.underlying 9=some .string:=by kernel_rfl
theorem under4:Tryz.prog.underlying 4=some .bool:=by kernel_rfl
theorem cells51:Tryz.prog.cellsOf 51=7:=by kernel_rfl
theorem cells26:Tryz.prog.cellsOf 26=5:=by kernel_rfl
theorem Z6L{k:Nat}{x:DataW H×List MemPlace}(hv:∃u,Cell.okWide Tryz.prog W .any b0 u v)(h:DataW.trod enc Tryz.prog W 0 (λ_=>true) true k 24 [v]=some x):
 ∃(base:Option Addr)(n cap:Nat)(L:List Sf),v= .slice base n cap/\L.length=n/\n<=cap/\cap<=maxLen/\VRel id (Nk.Live (Zx W)) v v/\RawA W base L:=by
 obtain⟨base,n,cap,e,hn,hm,hr,Q4⟩:=Z5V under24 cells51 (by decide) hv h;have key:∀i,i<n->∃x:Sf,∃b off,base=some ⟨b,off,none⟩/\b<W.heap.size/\ShaftAt W b (off+i*7) x/\x.nm.size<=maxLen:=by
  intro i hi;obtain⟨b,off,h1,h2,cs,h3,h4,h5⟩:=Q4 i hi;have Ag:cs.length<=Tryz.prog.cellsOf 51:=by rw[cells51];omega
  obtain⟨s,e0,hs⟩:=Z6d (n:=3) (o:=0) (u:=9) Ag h5 (by kernel_rfl) under9;obtain⟨x1,e1,_⟩:=Z0z (n:=3) (o:=1) (u:=3) Ag h5 (by kernel_rfl) under3;obtain⟨x2,e2,_⟩:=Z0z (n:=3) (o:=2) (u:=3) Ag h5 (by kernel_rfl) under3;obtain⟨x3,e3,_⟩:=Z0z (n:=3) (o:=3) (u:=3) Ag h5 (by kernel_rfl) under3;obtain⟨x4,e4,_⟩:=Z0z (n:=3) (o:=4) (u:=3) Ag h5 (by kernel_rfl) under3;obtain⟨x5,e5,_⟩:=Z0z (n:=3) (o:=5) (u:=3) Ag h5 (by kernel_rfl) under3;obtain⟨x6,e6,_⟩:=Z0z (n:=3) (o:=6) (u:=3) Ag h5 (by kernel_rfl) under3;exact⟨⟨s,x1,x2,x3,x4,x5,x6⟩,b,off,h1,h2,⟨(h4 0 (by omega)).trans e0,(h4 1 (by omega)).trans e1,(h4 2 (by omega)).trans e2,(h4 3 (by omega)).trans e3,(h4 4 (by omega)).trans e4,(h4 5 (by omega)).trans e5,(h4 6 (by omega)).trans e6⟩,hs⟩
 obtain⟨L,C8,Q3⟩:=Zaa n key;exact⟨base,n,cap,L,e,C8,hn,hm,hr,Q3⟩
theorem arr5{cs:Array Value}{a b c e:Value}(hs:cs.size=5)(h0:cs.toList[0]? =some a)(h1:cs.toList[1]? =some b)(h2:cs.toList[2]? =some c)(h3:cs.toList[3]? =some d)(h4:cs.toList[4]? =some e):cs= #[a,b,c,d,e]:=by
 obtain⟨l⟩:=cs
 match l,hs with
 |[_,_,_,_,_],_=>simp at h0 h1 h2 h3 h4;subst h0 h1 h2 h3 h4;rfl
theorem Z4c{d:DataW H}{p:List MemPlace}(hv:Value.okWide Tryz.prog W .any b0 26 v)(h:DataW.Trod enc Tryz.prog W 0 (λ_=>true) true 26 v d p):
 ∃(a b c m:Int)(base:Option Addr)(n cap:Nat)(L:List Sf),v= .agg #[a,b,c,m,.slice base n cap]/\L.length=n/\n<=cap/\cap<=maxLen/\VRel id (Nk.Live (Zx W)) v v/\RawA W base L/\
  ((Lit.int .i64 a).wf=true/\(Lit.int .i64 b).wf=true/\(Lit.int .i64 c).wf=true/\(Lit.int .i64 m).wf=true):=by
 obtain⟨cs,rfl,hs,hx⟩:=ZiU hv (by kernel_rfl);obtain⟨fuel,hf⟩:=h;have hf:DataW.trod enc Tryz.prog W 0 (λ_=>true) true fuel 26 cs.toList=some (d,p):=hf;rw[cells26] at hs;have Ag:cs.toList.length<=Tryz.prog.cellsOf 26:=by rw[cells26];simp[hs]
 obtain⟨x0,e0,w0⟩:=Z0z (n:=2) (o:=0) (u:=3) Ag ⟨_,_,hf⟩ (by kernel_rfl) under3;obtain⟨x1,e1,w1⟩:=Z0z (n:=2) (o:=1) (u:=3) Ag ⟨_,_,hf⟩ (by kernel_rfl) under3;obtain⟨x2,e2,w2⟩:=Z0z (n:=2) (o:=2) (u:=3) Ag ⟨_,_,hf⟩ (by kernel_rfl) under3;obtain⟨x3,e3,w3⟩:=Z0z (n:=2) (o:=3) (u:=3) Ag ⟨_,_,hf⟩ (by kernel_rfl) under3;obtain⟨sv,m,y,e4,h4⟩:=Z7R (n:=2) (o:=4) (u:=24) Ag ⟨_,_,hf⟩ (by kernel_rfl) under24;obtain⟨base,n,cap,L,rfl,hL,hn,hm,hr,hR⟩:=Z6L (hx 4 sv (by simpa using e4)) h4;have Oh:=arr5 hs e0 e1 e2 e3 e4;subst Oh
 have hA:AR id (Nk.Live (Zx W)) #[x0,x1,x2,x3,.slice base n cap] #[x0,x1,x2,x3,.slice base n cap]:=
  ((((AR.nil.push (.int _ _)).push (.int _ _)).push (.int _ _)).push (.int _ _)).push hr
 exact⟨x0,x1,x2,x3,base,n,cap,L,rfl,hL,hn,hm,.agg hA.1 hA.2,hR,w0,w1,w2,w3⟩
end
end Go.Proofs.Tryq
