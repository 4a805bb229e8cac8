import Derived.Test.YtedkbdkbbnemlaaGreatDoorNkA
import Derived.Test.YtedkbdkbbnemlaaGreatDoorNk11
import Derived.Test.YtedkbdkbbnemlaaGreatDoorNk18
import Derived.Carry
import Derived.ChangeSame
import Derived.Conc.LeavingOf
import Derived.Stop.Joined
set_option linter.all false
namespace Go.Proofs.Tryv
set_option maxRecDepth 10000
open Go Go.Nk Go.RowKit Go.Conc Go.Conc.Lib Go.ConcR.Gen Go.ConcN.Gen
open Go.ConcN (ShN WgLive PayAt Has CTag)
open Go.ConcR (KK WgAt stA smA rd wr mk Payload DC0)
open Go.Proofs.Tryq (theBan Zh ZH link payload wgLib Grew Sh Z7)
attribute [local instance] theBan
attribute [local instance] payload
section
variable {N n j:Nat} {cc:Array Value} {sh:Nat->Obj->Prop} {Sb Giv o:Nat->Prop} {w w₁:World} {k:List Item} {cs:List Frame} {m:Nat->Value} {Res:Nat->(Nat->Prop)->Value->World->Prop} {Next:(Nat->Prop)->Goroutine->World->Prop}
theorem addFn_body:(addFn link).body=some (body_add link):=rfl
theorem addFn_ntmps:(addFn link).ntmps=117:=rfl
theorem Zdj{F:World->Prop}(hF:∀w w',RMo link.tWg (N+3) (N+1) n o w w'->F w->F w')(hL:∀w,F w->WgLive link.tWg (N+3) w)(ho:¬o (N+3))(hm:Hm N n j m)(h:F w)
 (next:∀w,F w->∃r,GoT Tryz.prog true (RMo link.tWg (N+3) (N+1) n) (DMo (N+3) Sb Giv) (MGo Tryz.prog link.tWg (N+3) (N+1) n Sb Res j Next) r o (G ((base 155).at (ZD 23 (upM m 18 (.tuple #[])) []) (.inRegion q6 []::k)) cs) w):
 ∃r,GoT Tryz.prog true (RMo link.tWg (N+3) (N+1) n) (DMo (N+3) Sb Giv) (ZdU Tryz.prog link.tWg (N+3) (N+1) n Sb Res Giv j Next) r o (G ((base 155).at (ZD 23 m []) (.inRegion q6 [0]::k)) cs) w:=by
 obtain⟨oo,ho',hd,A1,hg⟩:=q6_0;refine GoT.step rfl fun w₁ hw=> ?_
 have h1:=hF _ _ hw h;have hv:(#[Operand.tmp 4,.const (.int .i64 1)]:Array Operand).map (Zd 23 m)= #[.pointer (some ⟨N+3,0,none⟩),.int .i64 1]:=by
  have e1:Zd 23 m (.tmp 4)= .pointer (some ⟨N+3,0,none⟩):=hm.t4;simp only[List.map_toArray,List.map_cons,List.map_nil,e1];rfl
 obtain⟨e1,e2⟩:=Zcq (w:=w₁) (m:=m) wgLib.f_add (nm_add link) rfl A1 hv;have e:=stepG_enter (main:=true) (b:=base 155) (k:=k) (cs:=cs) (rest:=[]) (a:=ZD 23 m []) ho' (Z1L hg _) (by decide) (by rw[actM_eval];exact e1);rw[enter_at _ wgLib.f_add addFn_body] at e
 obtain⟨r,hr⟩:=addM (L:=link) (Wg:=N+3) (C:=N+1) (n:=n) (Sb:=Sb) (Giv:=Giv) (o:=o) (Res:=Res) (j:=j) (Next:=Next) (F:=F) (b₀:=base 155) (a₀:=ZD 23 m []) (ops₀:=q6) (i₀:=0) (rest₀:=[]) (k₀:=k) (cs:=cs) wgLib ho (by omega) hF (fun w hF _=>by
  have hq:(q6[0]?).bind (·.dst)=some 18:=by rw[ho'];exact hd
  rw[hq,Z2x];exact next w hF) w₁ ⟨h1,hL _ h1⟩
 refine⟨_,w₁,_,r,e,⟨fun _ _ _=>rfl,Nat.le_refl _,rfl,rfl,rfl,fun ev Bh=> ?_⟩,?_⟩
 ·have:=mem_listed Bh;rw[actM_eval] at this;exact(e2 ev this).elim
 ·rw[Z0a rfl,addFn_ntmps];simp only[List.size_toArray,YP,List.length_nil,Nat.reduceAdd,Nat.reduceSub,Array.replicate_succ,Array.replicate_zero,List.push_toArray,List.append_toArray,YJ,YK,Nat.zero_add];exact hr
end
abbrev Nx(N n:Nat)(Sb:Nat->Prop)(Res:Nat->(Nat->Prop)->Value->World->Prop)(A:(Nat->Prop)->Goroutine->World->Prop)(r:Nat):(Nat->Prop)->Goroutine->World->Prop:=
 fun o g w=>SpawnsN Tryz.prog link.tWg (N+3) (N+1) n Sb Res A r o o g w
def Zcr(N n:Nat)(Sb:Nat->Prop)(Res:Nat->(Nat->Prop)->Value->World->Prop)(A:(Nat->Prop)->Goroutine->World->Prop)(Giv:Nat->Prop):Nat->(Nat->Prop)->Goroutine->World->Prop
 |0=>MKd Tryz.prog link.tWg (N+3) (N+1) n Sb A Giv
 |r+1=>ZdU Tryz.prog link.tWg (N+3) (N+1) n Sb Res Giv (n - (r+1)) (Nx N n Sb Res A r)
section
variable {N n j:Nat} {cc:Array Value} {sh:Nat->Obj->Prop} {Sb Giv o:Nat->Prop} {w w₁:World} {cs:List Frame} {m:Nat->Value} {Res:Nat->(Nat->Prop)->Value->World->Prop} {A:(Nat->Prop)->Goroutine->World->Prop}
theorem Z2y(r:Nat)(g:Goroutine):SpawnsN Tryz.prog link.tWg (N+3) (N+1) n Sb Res A r Giv o g w=∃t,GoT Tryz.prog true (RMo link.tWg (N+3) (N+1) n) (DMo (N+3) Sb Giv) (Zcr N n Sb Res A Giv r) t o g w:=by
 cases r<;>rfl
theorem Zec(hn:n<=8)(Hg:∀b,Sb b->b<N)(B9:∀b ob,sh b ob->b<N)
 (J4:∀j o w Ik,j<n->MnI N n cc sh Ik j o w->¬Sb Ik->N+3<Ik->PayAt (N+1) n w->Z9l Tryz.prog link.tWg (N+3) (N+1) n Sb Res j o (born Tryz.prog (Z8s N Ik)) w)
 (Cr:∀Giv o w m,Hm N n n m->Mn N n cc sh o w->∃t,GoT Tryz.prog true (RMo link.tWg (N+3) (N+1) n) (DMo (N+3) Sb Giv) (MKd Tryz.prog link.tWg (N+3) (N+1) n Sb A Giv) t o (G ((base 155).at (ZD 23 m []) [.code T82]) cs) w):
 ∀(r j:Nat)(m:Nat->Value)(Giv o:Nat->Prop)(w:World),j+r=n->Hm N n j m->Mn N n cc sh o w->(∀b,Giv b->b<w.heap.size)->
  SpawnsN Tryz.prog link.tWg (N+3) (N+1) n Sb Res A r Giv o (G ((base 155).at (ZD 23 m []) (.code L82::kL)) cs) w:=by
 intro r
 induction r with
 |zero=>
  intro j m Giv o w hj hm hM Rq;obtain rfl:j=n:=by omega
  rw[Z2y,L82_eq];have hF:=Z6J N j cc sh;refine ZB hF rfl (fun w=>stepG_seq) hM fun w hM=> ?_
  refine ZB hF rfl (fun w=>stepG_region) hM fun w hM=> ?_
  rw[q4_size];obtain⟨oo,ho,hd,A1,hg⟩:=q4_0;refine Z8r hF (by decide) ho hd hg (fun x=>Ze7 A1 hm.t15 hm.t14) hM fun w hM=> ?_
  rw[show decide ((j:Int)<j)=false from decide_eq_false (by omega)];refine ZB hF rfl (fun w=>stepG_region_end) hM fun w hM=> ?_
  refine ZB hF rfl (fun w=>stepG_seq) hM fun w hM=> ?_
  refine ZB hF rfl (fun w=>stepG_cond (t:=false) (by rw[actM_eval];rfl)) hM fun w hM=> ?_
  refine ZB hF rfl (fun w=>stepG_exit (k':=[.code T82]) rfl) hM fun w hM=> ?_
  exact Cr Giv o w _ (hm.up (by decide)) hM
 |succ r ih=>
  intro j m Giv o w hj hm hM Rq;have Uv:n - (r+1)=j:=by omega
  rw[Z2y,L82_eq];simp only[Zcr,Uv];have hF:=Z6J N n cc sh;have Az:=hM.sz;obtain⟨B,hB,hBs⟩:∃B,(∀b,Giv b->b<B)/\B<=w.heap.size/\N+3<B:=⟨_,Rq,Nat.le_refl _,Az⟩;have hF':∀o w w₁,RMo link.tWg (N+3) (N+1) n o w w₁->(Mn N n cc sh o w/\B<=w.heap.size)->(Mn N n cc sh o w₁/\B<=w₁.heap.size):=fun o w w₁ hr h=>⟨h.1.rely hr,Nat.le_trans h.2 hr.size⟩
  have hM:Mn N n cc sh o w/\B<=w.heap.size:=⟨hM,hBs.1⟩;refine ZB hF' rfl (fun w=>stepG_seq) hM fun w hM=> ?_
  refine ZB hF' rfl (fun w=>stepG_region) hM fun w hM=> ?_
  rw[q4_size];obtain⟨oo,ho,hd,A1,hg⟩:=q4_0;refine Z8r hF' (by decide) ho hd hg (fun x=>Ze7 A1 hm.t15 hm.t14) hM fun w hM=> ?_
  rw[show decide ((j:Int)<n)=true from decide_eq_true (by omega)];replace hm:=hm.up (d:=16) (v:= .bool true) (by decide);have h16:(upM m 16 (.bool true)) 16= .bool true:=rfl;generalize upM m 16 (.bool true)=m1 at hm h16⊢;refine ZB hF' rfl (fun w=>stepG_region_end) hM fun w hM=> ?_
  refine ZB hF' rfl (fun w=>stepG_seq) hM fun w hM=> ?_
  refine ZB hF' rfl (fun w=>stepG_cond (t:=true) (by rw[actM_eval];exact h16)) hM fun w hM=> ?_
  refine ZB hF' rfl (fun w=>stepG_skip) hM fun w hM=> ?_
  refine ZB hF' rfl (fun w=>stepG_seq) hM fun w hM=> ?_
  refine ZB hF' rfl (fun w=>stepG_block) hM fun w hM=> ?_
  refine ZB hF' rfl (fun w=>stepG_seq) hM fun w hM=> ?_
  refine ZB hF' rfl (fun w=>stepG_region) hM fun w hM=> ?_
  rw[q5_size];obtain⟨oo,ho,hd,A1,hg⟩:=q5_0;refine Z8r hF' (by decide) ho hd hg (fun x=>Z9U (s:=15) A1 (.inr rfl) (by decide)) hM fun w hM=> ?_
  rw[hm.t15];replace hm:=hm.up (d:=17) (v:= .int .i64 j) (by decide);have Ux:(upM m1 17 (.int .i64 j)) 17= .int .i64 j:=rfl;generalize upM m1 17 (.int .i64 j)=m2 at hm Ux⊢;obtain⟨oo,ho,hd,A1,hg⟩:=q5_1;refine Za1 (by decide) ho hd hg A1 hM.1 fun o1 w1 Ik hI J3 Ma=> ?_
  have hIB:B<=Ik:=Nat.le_trans hM.2 J3;replace hm:=hm.up (d:=5) (v:= .pointer (some ⟨Ik,0,none⟩)) (by decide);have h5:(upM m2 5 (.pointer (some ⟨Ik,0,none⟩))) 5= .pointer (some ⟨Ik,0,none⟩):=rfl;have Rr:(upM m2 5 (.pointer (some ⟨Ik,0,none⟩))) 17= .int .i64 j:=Ux;generalize upM m2 5 (.pointer (some ⟨Ik,0,none⟩))=m3 at hm h5 Rr⊢;have M8:¬Sb Ik:=fun h=>by have:=Hg _ h;omega
  obtain⟨oo,ho,hd,A1,hg⟩:=q5_2;refine Za2 (by decide) ho hd hg A1 h5 Rr hI (fun h=>by have:=hB _ h;omega) M8 ⟨by omega,by omega,by omega,by omega,fun b ob hb=>by have:=B9 b ob hb;omega⟩ fun w1 hI=> ?_
  have I3:=Z7A N n cc sh Ik j;refine ZB I3 rfl (fun w=>stepG_region_end) hI fun w1 hI=> ?_
  refine ZB I3 rfl (fun w=>stepG_seq) hI fun w1 hI=> ?_
  refine ZB I3 rfl (fun w=>stepG_region) hI fun w1 hI=> ?_
  rw[q6_size];refine Zdj (F:=MnI N n cc sh Ik j o1) (I3 o1) (fun w h=>h.1.live) hI.1.oW hm hI fun w1 hI=> ?_
  replace hm:=hm.up (d:=18) (v:= .tuple #[]) (by decide);have h5':(upM m3 18 (.tuple #[])) 5= .pointer (some ⟨Ik,0,none⟩):=h5;generalize upM m3 18 (.tuple #[])=m4 at hm h5'⊢;refine ZB I3 rfl (fun w=>stepG_region_end) hI fun w1 hI=> ?_
  refine ZB I3 rfl (fun w=>stepG_region) hI fun w1 hI=> ?_
  rw[q7_size];obtain⟨oo,ho,hd,A1,hg⟩:=q7_0;refine Z8r I3 (by decide) ho hd hg (fun x=>Zeb (N:=N) (Ik:=Ik) A1 hm h5') hI fun w1 hI=> ?_
  replace hm:=hm.up (d:=19) (v:= .func (.func 162) #[] #[.pointer (some ⟨N+3,0,none⟩),.pointer (some ⟨N,0,none⟩),.pointer (some ⟨Ik,0,none⟩),.pointer (some ⟨N+2,0,none⟩)]) (by decide);have Fe:(upM m4 19 (.func (.func 162) #[] #[.pointer (some ⟨N+3,0,none⟩),.pointer (some ⟨N,0,none⟩),.pointer (some ⟨Ik,0,none⟩),.pointer (some ⟨N+2,0,none⟩)])) 19= .func (.func 162) #[] #[.pointer (some ⟨N+3,0,none⟩),.pointer (some ⟨N,0,none⟩),.pointer (some ⟨Ik,0,none⟩),.pointer (some ⟨N+2,0,none⟩)]:=rfl;generalize upM m4 19 (.func (.func 162) #[] #[.pointer (some ⟨N+3,0,none⟩),.pointer (some ⟨N,0,none⟩),.pointer (some ⟨Ik,0,none⟩),.pointer (some ⟨N+2,0,none⟩)])=m5 at hm Fe⊢;refine⟨.leaf,GoT.stop _ fun w2 E4=> ?_⟩;have Ps:=I3 _ _ _ E4 hI;obtain⟨oo,ho,hd,A1,hg⟩:=q7_1;obtain⟨e1,e2⟩:=r_go (w:=w2) A1 Fe;have e:=stepG_spawn (main:=true) (b:=base 155) (k:= .inBlock 1:: .code (.region 8 q8 false)::kL) (cs:=cs) (rest:=[]) (a:=ZD 23 m5 []) (f:= .func 162) ho (Z1L hg _) (by decide) (by rw[actM_eval];exact e1) rfl;have hl:listed Tryz.prog (base 155).fn (ZD 23 m5 []) oo w2= #[]:=by
   unfold listed;rw[actM_eval,e2];exact seen_none _ _
  rw[hl,hd] at e;refine⟨rfl,_,_,e,rfl,fun hp=>J4 j o1 w2 Ik (by omega) Ps M8 (by omega) hp,?_⟩;show SpawnsN _ _ _ _ _ _ _ _ _ _ _ _ _;rw[Z2y];have Rb:=Ps.1;have O5:∀o w w₁,RMo link.tWg (N+3) (N+1) n o w w₁->Mn N n cc sh o w->Mn N n cc sh o w₁:=hF;refine ZB O5 rfl (fun w=>stepG_region_end) Rb fun w3 Ct=> ?_
  refine ZB O5 rfl (fun w=>stepG_inBlock) Ct fun w3 Ct=> ?_
  refine ZB O5 rfl (fun w=>stepG_region) Ct fun w3 Ct=> ?_
  rw[q8_size];obtain⟨oo,ho,hd,A1,hg⟩:=q8_0;refine Z8r O5 (by decide) ho hd hg (fun x=>Ze8 (i:=j) (by omega) A1 hm.t15) Ct fun w3 Ct=> ?_
  replace hm:=hm.up (d:=20) (v:= .int .i64 ((j+1:Nat):Int)) (by decide);have Dw:(upM m5 20 (.int .i64 ((j+1:Nat):Int))) 20= .int .i64 ((j+1:Nat):Int):=rfl;generalize upM m5 20 (.int .i64 ((j+1:Nat):Int))=m6 at hm Dw⊢;obtain⟨oo,ho,hd,A1,hg⟩:=q8_1;refine Z8r O5 (by decide) ho hd hg (fun x=>Z9U (s:=20) A1 (.inr rfl) (by decide)) Ct fun w3 Ct=> ?_
  rw[Dw];refine ZB O5 rfl (fun w=>stepG_region_end) Ct fun w3 Ct=> ?_
  refine ZB O5 rfl (fun w=>stepG_inLoop) Ct fun w3 Ct=> ?_
  rw[<-Z2y];exact ih (j+1) _ _ _ _ (by omega) ⟨hm.t1,hm.t3,hm.t4,hm.t14,rfl⟩ Ct (fun b hb=>Ct.lt b hb)
end
section
variable {P:Program} {ty:TypeId} {Wg C n:Nat} {Sb:Nat->Prop} {End A A':(Nat->Prop)->Goroutine->World->Prop} {Giv o:Nat->Prop} {g:Goroutine} {w:World}
theorem ZbF(hA:∀o g w,A o g w->A' o g w)(h:MKd P ty Wg C n Sb A Giv o g w):MKd P ty Wg C n Sb A' Giv o g w:=by
 obtain⟨hs,g',e,r,hr⟩:=h;exact⟨hs,g',e,r,hr.mono (fun _ _ _ h=>h) (fun _ _ _ _ h=>h) hA⟩
theorem ZbG{v:Nat}(hA:∀o g w,A o g w->A' o g w)(h:MW2 P ty Wg C n Sb End A Giv v o g w):MW2 P ty Wg C n Sb End A' Giv v o g w:=by
 obtain⟨hs,h⟩:=h;refine⟨hs,fun x hx hw=>⟨(h x hx hw).1,fun A9=> ?_⟩⟩;obtain⟨g',e,r,hr⟩:=(h x hx hw).2 A9;exact⟨g',e,r,hr.mono (fun _ _ _ h=>h) (fun _ _ _ _ h=>h) hA⟩
theorem ZbH(hA:∀o g w,A o g w->A' o g w)(h:MW1 P ty Wg C n Sb End A Giv o g w):MW1 P ty Wg C n Sb End A' Giv o g w:=by
 obtain⟨hs,h⟩:=h;refine⟨hs,fun v hv hw=> ?_⟩;obtain⟨g',e,h0,h1⟩:=h v hv hw;refine⟨g',e,h0,fun A9=> ?_⟩;obtain⟨r,hr⟩:=h1 A9;exact⟨r,hr.mono (fun _ _ _ h=>h) (fun _ _ _ _ h=>h) (fun _ _ _ h=>ZbG hA h)⟩
end
noncomputable def kT:List Item:=[.code (.seq (.region 10 q10 false) .ret)]
def AnW(N n:Nat)(cc:Array Value)(sh:Nat->Obj->Prop)(cs:List Frame)(o:Nat->Prop)(g:Goroutine)(w:World):Prop:=
 ∃m,Hm N n n m/\Zbm link (fun o w=>Mn N n cc sh o w) (N+3) ((base 155).at (ZD 23 m []) (.inRegion q9 [0]::kT)) cs o g w
def EnW(N n:Nat)(cc:Array Value)(sh:Nat->Obj->Prop)(cs:List Frame)(o:Nat->Prop)(g:Goroutine)(w:World):Prop:=
 ∃m,Hm N n n m/\g=G ((base 155).at (ZD 23 m []) (.inRegion q9 []::kT)) cs/\Mn N n cc sh o w
section
variable {N n:Nat} {cc:Array Value} {sh:Nat->Obj->Prop} {cs:List Frame} {Sb:Nat->Prop}
theorem anW_running:∀o g w,AnW N n cc sh cs o g w->g.status= .running:=by
 rintro o g w ⟨m,_,T,rfl,_⟩;rfl
theorem enW_running:∀o g w,EnW N n cc sh cs o g w->g.status= .running:=by
 rintro o g w ⟨m,_,rfl,_⟩;rfl
theorem waitFn_body:(waitFn link).body=some (body_wait link):=rfl
theorem waitFn_ntmps:(waitFn link).ntmps=84:=rfl
theorem ZbI(Giv o:Nat->Prop)(w:World)(m:Nat->Value)(hm:Hm N n n m)(hM:Mn N n cc sh o w):
 ∃t,GoT Tryz.prog true (RMo link.tWg (N+3) (N+1) n) (DMo (N+3) Sb Giv) (MKd Tryz.prog link.tWg (N+3) (N+1) n Sb (AnW N n cc sh cs) Giv) t o (G ((base 155).at (ZD 23 m []) [.code T82]) cs) w:=by
 have hF:=Z6J N n cc sh;rw[T82_eq];refine ZB hF rfl (fun w=>stepG_seq) hM fun w hM=> ?_
 refine ZB hF rfl (fun w=>stepG_region) hM fun w hM=> ?_
 rw[q9_size];obtain⟨oo,ho',hd,A1,hg⟩:=q9_0;refine GoT.step rfl fun w₁ hw=> ?_
 have h1:=hM.rely hw;have hv:(#[Operand.tmp 4]:Array Operand).map (Zd 23 m)= #[.pointer (some ⟨N+3,0,none⟩)]:=by
  have e1:Zd 23 m (.tmp 4)= .pointer (some ⟨N+3,0,none⟩):=hm.t4;simp only[List.map_toArray,List.map_cons,List.map_nil,e1]
 obtain⟨e1,e2⟩:=Zcq (w:=w₁) (m:=m) wgLib.f_wait (nm_wait link) rfl A1 hv;have e:=stepG_enter (main:=true) (b:=base 155) (k:=kT) (cs:=cs) (rest:=[]) (a:=ZD 23 m []) ho' (Z1L hg _) (by decide) (by rw[actM_eval];exact e1);rw[enter_at _ wgLib.f_wait waitFn_body] at e;obtain⟨r,hr⟩:=Z8i (L:=link) (Wg:=N+3) (C:=N+1) (n:=n) (Sb:=Sb) (F:=fun o w=>Mn N n cc sh o w) (b₀:=base 155) (a₀:=ZD 23 m []) (ops₀:=q9) (i₀:=0) (rest₀:=[]) (k₀:=kT) (cs:=cs) wgLib Giv o (fun o w w' hr h=>h.rely hr) w₁ ⟨h1,h1.live⟩;have hr:=hr.mono (fun _ _ _ h=>h) (fun _ _ _ _ h=>h) (fun _ _ _ h=>ZbF (A':=AnW N n cc sh cs) (fun o g w h=>⟨m,hm,h⟩) h);refine⟨_,w₁,_,r,e,⟨fun _ _ _=>rfl,Nat.le_refl _,rfl,rfl,rfl,fun ev Bh=> ?_⟩,?_⟩
 ·have:=mem_listed Bh;rw[actM_eval] at this;exact(e2 ev this).elim
 ·rw[Z0a rfl,waitFn_ntmps];simp only[List.size_toArray,YP,List.length_nil,Nat.reduceAdd,Nat.reduceSub,Array.replicate_succ,Array.replicate_zero,List.push_toArray,List.append_toArray,YJ,YK,Nat.zero_add];exact hr
theorem Z8t(Giv o:Nat->Prop)(g:Goroutine)(w:World)(h:AnW N n cc sh cs o g w):
 ∃r,GoT Tryz.prog true (RMo link.tWg (N+3) (N+1) n) (DMo (N+3) Sb Giv) (MW1 Tryz.prog link.tWg (N+3) (N+1) n Sb (EnW N n cc sh cs) (AnW N n cc sh cs) Giv) r o g w:=by
 obtain⟨m,hm,h⟩:=h
 obtain⟨r,hr⟩:=Z8j (L:=link) (Wg:=N+3) (C:=N+1) (n:=n) (Sb:=Sb) (End:=EnW N n cc sh cs) (F:=fun o w=>Mn N n cc sh o w) (b₀:=base 155) (a₀:=ZD 23 m []) (ops₀:=q9) (i₀:=0) (rest₀:=[]) (k₀:=kT) (cs:=cs) wgLib (by omega) (fun o w w' hr h=>h.rely hr) (fun o w h=>h.oW)
  (fun Giv o w hF _=>by
    obtain⟨oo,ho',hd,A1,hg⟩:=q9_0;have hq:(q9[0]?).bind (·.dst)=some 21:=(by rw[ho'];exact hd);rw[hq,Z2x];exact⟨.leaf,GoT.stop _ fun w₁ hr=>⟨_,hm.up (by decide),rfl,hF.rely hr⟩⟩) Giv o g w h
 exact⟨r,hr.mono (fun _ _ _ h=>h) (fun _ _ _ _ h=>h) (fun _ _ _ h=>ZbH (fun o g w h=>⟨m,hm,h⟩) h)⟩
end
end Go.Proofs.Tryv
namespace Go.Proofs.Tryv
open Go Go.Nk Go.RowKit Go.Conc Go.Conc.Lib Go.ConcR.Gen Go.ConcN.Gen
open Go.ConcN (ShN WgLive PayAt Has CTag)
open Go.ConcR (KK WgAt stA smA rd wr mk Payload DC0)
open Go.Proofs.Tryq (theBan Zh Zg ZH Z0l link payload wgLib Grew Sh ShotAt Z7)
attribute [local instance] theBan
attribute [local instance] payload
theorem Z7B{x:MemAct}{B W:Nat}(h:x.low B)(hB:B<=W):Z8O W x:=by
 constructor
 ·intro y hy;cases x with
  |access e=>
   simp only[MemAct.touch?,Option.some.injEq] at hy;subst hy;rintro⟨a,ha,Pw⟩;have h:e.loc.low B:=h;have ha:e.loc= .cell a:=ha;rw[ha] at h;have h:a.block<B:=h;omega
  |mark m=>
   cases m with
   |read a=>
    simp only[MemAct.touch?,Option.some.injEq] at hy;subst hy;rintro⟨a',ha,Pw⟩;cases ha;have h:a.block<B:=h;omega
   |write a=>
    simp only[MemAct.touch?,Option.some.injEq] at hy;subst hy;rintro⟨a',ha,Pw⟩;cases ha;have h:a.block<B:=h;omega
   |_=>cases hy
  |_=>cases hy
 ·rintro rfl;have h:(stA W).block<B:=h;have e:(stA W).block=W:=rfl;omega
theorem Za3{e:Event}(h:Event.mute e=true)(W:Nat):Z8O W (MemAct.ofEvent e):=Z7B (low_mute (B:=0) h) (Nat.zero_le _)
def ResQ(cc:Array Value)(r0 r1 r2 r3:Int)(S:List Sh)(k:Nat)(o:Nat->Prop)(v:Value)(w:World):Prop:=
 ∃(s:Sh)(β:Nat->Nat),S[k]? =some s/\v= .pointer (some ⟨β 1,0,none⟩)/\Tryw.Five cc r0 r1 r2 r3 s o β w
theorem Zdk(cc:Array Value)(r0 r1 r2 r3:Int)(S:List Sh):ResOk (ResQ cc r0 r1 r2 r3 S):=by
 rintro k o v w w₁ hw ⟨s,β,h1,h2,h3,h4,h5⟩;exact⟨s,β,h1,h2,h3,fun j hj=>(hw _ (h3 j hj)).trans (h4 j hj),h5⟩
section
variable {n:Nat} {cc:Array Value} {sh:Nat->Obj->Prop} {Sb:Nat->Prop} {cs:List Frame} {Res:Nat->(Nat->Prop)->Value->World->Prop}
def Zcs(N:Nat)(w:World)(b:Nat):Prop:=b<w.heap.size/\b≠N+1/\b≠N+3
theorem Zdl{w w1:World}{m:Nat->Value}{gs:Array Goroutine}{sl:Option (Nat×Nat)}{t:Trace}{q:Nat->Nat}(hn:n<=8)(Hg:∀b,Sb b->b<w.heap.size)(hG:Grew w w1 (ZdI cc w.heap.size n))(hm:Hm w.heap.size n 0 m)
 (hM:MacM Tryz.prog Sb ((base 155).at (ZD 23 m []) (.code L82::kL)) cs gs w1 t q)(ht:∀op∈t,Z8O (w.heap.size+3) op.act)(B9:∀b ob,sh b ob->b<w.heap.size/\w.heap[b]? =some ob)(hR:ResOk Res)
 (J4:∀j o w1 Ik,j<n->MnI w.heap.size n cc sh Ik j o w1->¬Sb Ik->w.heap.size+3<Ik->(∀b,Sb b->b<w.heap.size)->PayAt (w.heap.size+1) n w1->Z9l Tryz.prog link.tWg (w.heap.size+3) (w.heap.size+1) n Sb Res j o (born Tryz.prog (Z8s w.heap.size Ik)) w1):
 ∃K m' t',runNT Tryz.prog K (crowd gs w1 sl) t=(.next m',t')/\Z5R Tryz.prog (w.heap.size+3) (w.heap.size+1) n Sb Res (EnW w.heap.size n cc sh cs) w1 (Zcs w.heap.size w1) m' t':=by
 have Cc:w1.heap.size=w.heap.size+4:=hG.size;have new:∀i,i<4->w1.heap[w.heap.size+i]? =(ZdI cc w.heap.size n)[i]? :=fun i hi=>hG.new i hi
 have Au:WgAt link.tWg (w.heap.size+3) w1 0 0:=new 3 (by omega);have Du:PayAt (w.heap.size+1) n w1:=⟨_,new 1 (by omega),Z0l _ _ _⟩;have Uz:Mn w.heap.size n cc sh (Zcs w.heap.size w1) w1:=by
  refine⟨new 0 (by omega),new 2 (by omega),⟨_,_,Au⟩,⟨by omega,by omega,by omega⟩,⟨by omega,by omega,by omega⟩,fun h=>h.2.1 rfl,fun h=>h.2.2 rfl,fun b hb=>hb.1,by omega,fun b ob hb=> ?_⟩;obtain⟨h1,h2⟩:=B9 b ob hb;exact⟨⟨by omega,by omega,by omega⟩,(hG.old b h1).trans h2⟩
 have Ew:GeoN (w.heap.size+3) (w.heap.size+1) Sb w1 0 (fun _ _=>False) (fun _ _=>False) (Zcs w.heap.size w1) (Zcs w.heap.size w1):=
  ⟨fun k hk=>by omega,fun k k' hk=>by omega,fun b hb=>⟨hb.1,hb.2.2,hb.2.1⟩,fun k hk=>by omega,fun b hb=>hb,fun b hb=>⟨by have:=Hg b hb;omega,by have:=Hg b hb;omega,by have:=Hg b hb;omega⟩,by omega,by omega,by omega⟩
 have H7:=Zec (Sb:=Sb) (Res:=Res) (A:=AnW w.heap.size n cc sh cs) (cs:=cs) hn Hg (fun b ob hb=>(B9 b ob hb).1) (fun j o w1 Ik hj hI hs J3 hp=>J4 j o w1 Ik hj hI hs J3 Hg hp) (fun Giv o w m hm hM=>ZbI Giv o w m hm hM) n 0 m (Zcs w.heap.size w1) (Zcs w.heap.size w1) w1 (by omega) hm Uz (fun b hb=>hb.1);refine Zea (sl:=sl) hR (by omega) anW_running enW_running (fun Giv o g w h=>Z8t Giv o g w h) hM.main hM.leave hM.past (Nat.le_refl _) (fun op A1 x hx=>(ht op A1).1 x hx) (fun i hi=> ?_) (fun i op hi=>hM.who op (Array.mem_of_getElem? hi)) Au Du Ew (fun b hb=>hb) H7 (fun b hb=>rfl) rfl rfl rfl (Nat.le_refl _);obtain⟨op,A1,ha⟩:=Option.map_eq_some_iff.1 hi;exact(ht op (Array.mem_of_getElem? A1)).2 ha
theorem ZbJ{fr c:Frame}{cs:List Frame}{w:World}{v:Value}(hv:fr.tmps.getD 2 undef=v)(hfn:fr.fn=155)(hk:fr.kind= .normal)(hm:fr.mode= .returning)(hd:fr.defers=[]):stepG Tryz.prog true (G fr (c::cs)) w= .go (G (c.finish v) cs) w #[]:=by
 have Af:(results Tryz.f155 fr.tmps).runT Tryz.prog w #[]=(.ok v w,#[]):=by rw[<-hv];simp[results,f82_results]
 have e1:stepG Tryz.prog true (G fr (c::cs)) w=unwind Tryz.prog true fr (c::cs) none w:=by simp only[G,stepG,hm]
 rw[e1];simp only[unwind,hd,hm,hfn,Tryz.func155,Af,doReturn,hk];simp[GStep.after,seen,G]
theorem ev82(M:Nat->Value)(k:List Item){v:Value}(h:M 2=v):({(base 155).at (ZD 23 M []) k with mode:= .returning}:Frame).tmps.getD 2 undef=v:=by
 have e:({(base 155).at (ZD 23 M []) k with mode:= .returning}:Frame).tmps=(ZD 23 M []).tmps:=rfl;rw[e,<-h];have:=congrFun (actM_eval (n:=23) (m:=M) (ds:=[])) (.tmp 2);simpa only[Act.eval,Zd,if_pos (show(2:Nat)<23 by decide)] using this
theorem Zed{Stop:Frame->List Frame->World->Prop}{c:Frame}{N:Nat}{w:World}{m:Nat->Value}(h3:m 3= .pointer (some ⟨N+2,0,none⟩))(hc:w.cell? ⟨N+2,0,none⟩=some (.slice (some ⟨N+1,0,none⟩) n n))(hb:¬Sb (N+2))(A4:N+2<w.heap.size)
 (Iu:∀d,Stop (c.finish (.slice (some ⟨N+1,0,none⟩) n n)) cs (w.at d)):∃K,OwnTo Tryz.prog Sb (Z8O (N+3)) Stop K ((base 155).at (ZD 23 m []) (.inRegion q9 []::kT)) (c::cs) w:=by
 have A9:(base 155).kind≠.early:=by decide
 refine own_c (fun w=>stepG_region_end) ?_;refine own_c (fun w=>stepG_seq) ?_;refine own_c (fun w=>stepG_region) ?_;rw[q10_size];obtain⟨o,ho,hd,A1,hg⟩:=q10_0;refine own_v A9 ho hd hg (Nat.le_refl _) (Z6F (a:=⟨N+2,0,none⟩) A1 (.inr rfl) (by decide) h3 hc hb A4 (by show N+2≠_;omega)) ?_;obtain⟨o,ho,hd,A1,hg⟩:=q10_1;refine Z4U A9 ho hd hg (fun x=>Z9U (s:=22) A1 (.inl rfl) (by decide)) ?_;refine own_c (fun w=>stepG_region_end) ?_;refine own_c (fun w=>stepG_ret') ?_;refine own_c (fun w=>ZbJ (ev82 _ _ rfl) rfl rfl rfl rfl) ?_;exact⟨0,fun d=>Iu d⟩
end
end Go.Proofs.Tryv
namespace Go.Proofs.Tryv
open Go Go.Nk Go.RowKit Go.Conc Go.Conc.Lib
open Go.ConcN (ShN WgLive PayAt Has CTag)
open Go.Proofs.Tryq (theBan Zh Zg ZH Z0l link payload wgLib Grew Sh ShotAt Shots shO kO)
attribute [local instance] theBan
attribute [local instance] payload
theorem Zee{N n cap sb off j Ik:Nat}{r0 r1 r2 r3:Int}{S:List Sh}{s:Sh}{V w:World}{ρ:Nat->Nat}{Sb o:Nat->Prop}{c c':Array Value}{e:TypeId}{f f':Nat×Nat}(hj:j<n)(hs:S[j]? =some s)(hat:s.c<=90)(hS:ShotAt V sb (off+j*5) s.c s.m s.M s.wi s.li)
 (hV:V.heap[sb]? =some (.cells c e f))(har:AR ρ (Nk.Live V) c c')(C1:ρ sb<Tryz.prog.globals.size↔sb<Tryz.prog.globals.size)(hGV:Tryz.prog.globals.size<=V.heap.size)(hGN:Tryz.prog.globals.size<=N)
 (Fq:∀b,Sb b->b<N)(Gb:¬Sb (ρ sb))(A4:ρ sb<N)
 (hI:MnI N n (Zg r0 r1 r2 r3 (ρ sb) off n cap) (fun b ob=>b=ρ sb/\ob= .cells c' e f') Ik j o w)(M8:¬Sb Ik)(J3:N+3<Ik)(hp:PayAt (N+1) n w):
 Z9l Tryz.prog link.tWg (N+3) (N+1) n Sb (ResQ (Zg r0 r1 r2 r3 (ρ sb) off n cap) r0 r1 r2 r3 S) j o (born Tryz.prog (Z8s N Ik)) w:=by
 let K:Tryw.KE:={Bx:=N,Ob:=N+2,Ik:=Ik,C:=N+1,Wg:=N+3,n:=n,k:=j,off:=off,cap:=cap,sb:=sb,r0:=r0,r1:=r1,r2:=r2,r3:=r3,s:=s,V:=V,ρ:=ρ,Sb:=Sb,Rd:=o,L:=Nk.Live V,c:=c,c':=c',e:=e,f:=f,f':=f'}
 obtain⟨hM,Pv,hIc⟩:=hI;have B9:=hM.sh (ρ sb) _ ⟨rfl,rfl⟩;have hK:K.Ok:=by
  refine⟨hj,hat,hS,hV,har,C1,hGV,fun b hb=> ?_,fun b hb=> ?_⟩
  ·show o b/\¬Sb b;have hb:b=N+2\/b=Ik\/b=N\/b=ρ sb:=hb;rcases hb with h|h|h|h
   ·rw[h];exact⟨hM.oO,fun h=>by have:=Fq _ h;omega⟩
   ·rw[h];exact⟨Pv,M8⟩
   ·rw[h];exact⟨hM.oN,fun h=>by have:=Fq _ h;omega⟩
   ·rw[h];exact⟨B9.1,Gb⟩
  ·show b≠N+1;have hb:b=N+3\/b=N+2\/b=Ik\/b=N\/b=ρ sb:=hb;omega
 have hB:Tryw.Base K (fun _=>False) w:=by
  refine⟨⟨?_,?_,⟨_,hM.box⟩,B9.2,⟨?_,?_⟩,hM.live,hp⟩,fun _ _ h=>h⟩
  ·show w.cell? ⟨N+2,0,none⟩=_;simp only[World.cell?,hM.out];rfl
  ·show w.cell? ⟨Ik,0,none⟩=_;simp only[World.cell?,hIc];rfl
  ·have:=hM.sz;omega
  ·have:=hM.sz;show N+1<_;omega
 obtain⟨r,hr⟩:=Tryw.kid_works hK hB;refine⟨r,hr.mono (fun _ _ _ h=>h) (fun _ _ _ _ h=>h) fun o g w h=> ?_⟩;obtain⟨v,⟨β,hv,h5⟩,hA⟩:=h;exact⟨v,⟨s,β,hs,hv,h5⟩,hA⟩
theorem Za4{ρ:Nat->Nat}{L:Nat->Prop}{r0 r1 r2 r3:Int}{ad:Option Addr}{n cap:Nat}{x':Value}(h:VRel ρ L (.agg (Zh r0 r1 r2 r3 ad n cap)) x'):x'= .agg (Zh r0 r1 r2 r3 (ad.map (Zl ρ)) n cap):=by
 cases h with
 |agg h1 h2=>
  rename_i c';congr 1;have hs':c'.size=5:=by rw[<-h1];rfl
  have key:∀(i:Nat)(v v':Value),(Zh r0 r1 r2 r3 ad n cap)[i]? =some v->c'[i]? =some v'->VRel ρ L v v':=fun i v v' hv hv'=>by
   obtain⟨y,hy,hr⟩:=AR.get (⟨h1,h2⟩:AR ρ L _ _) hv;rw[hv'] at hy;cases hy;exact hr
  apply Array.ext_getElem?;intro i;rcases Nat.lt_or_ge i 5 with hi|hi
  ·obtain⟨v',hv'⟩:∃v',c'[i]? =some v':=⟨_,YN (by omega)⟩;rw[hv'];obtain rfl|rfl|rfl|rfl|rfl:i=0\/i=1\/i=2\/i=3\/i=4:=by omega
   ·have:=key 0 _ _ rfl hv';cases this;rfl
   ·have:=key 1 _ _ rfl hv';cases this;rfl
   ·have:=key 2 _ _ rfl hv';cases this;rfl
   ·have:=key 3 _ _ rfl hv';cases this;rfl
   ·have:=key 4 _ _ rfl hv';cases this<;>rfl
  ·rw[Array.getElem?_eq_none (by omega),Array.getElem?_eq_none (by simp[Zh];omega)]
end Go.Proofs.Tryv
namespace Go.Proofs.Tryv
open Go Go.Nk Go.RowKit Go.Conc Go.Conc.Lib
open Go.ConcN (ShN WgLive PayAt Has CTag)
open Go.Proofs.Tryq (theBan Zh Zg ZH Z0l Z19 link payload wgLib Grew Sh ShotAt Shots shO kO Z0Z Z4I)
attribute [local instance] theBan
attribute [local instance] payload
theorem flat5(f:Sh->List Obj)(hf:∀s,(f s).length=5):∀(S:List Sh)(k j:Nat),j<5->(S.flatMap f)[5*k+j]? =(S[k]?).bind fun s=>(f s)[j]? :=by
 intro S
 induction S with
 |nil=>intro k j _;simp
 |cons s S ih=>
  intro k j hj;rw[List.flatMap_cons];cases k with
  |zero=>
   rw[List.getElem?_append_left (by rw[hf];omega)];simp
  |succ k=>
   rw[List.getElem?_append_right (by rw[hf];omega),hf];rw[show 5*(k+1)+j - 5=5*k+j by omega,ih k j hj];simp
theorem Zdm(cc:Array Value)(r0 r1 r2 r3:Int)(s:Sh):(shO cc r0 r1 r2 r3 s).length=5:=rfl
theorem Zef{cc:Array Value}{r0 r1 r2 r3:Int}{S:List Sh}{B n k j:Nat}{s:Sh}(hn:S.length=n)(hs:S[k]? =some s)(hj:j<5):(kO cc r0 r1 r2 r3 S B n)[1+5*k+j]? =(shO cc r0 r1 r2 r3 s)[j]? :=by
 rw[show 1+5*k+j=(5*k+j)+1 by omega];simp only[kO,YB];rw[<-hn,List.take_length,flat5 _ (Zdm cc r0 r1 r2 r3) S k j hj,hs];rfl
theorem Z6K{ρ:Nat->Nat}{L:Nat->Prop}{c:Array Value}(hi:∀i,i<c.size->∃k n,c.getD i undef= .int k n):AR ρ L c c:=
 ⟨rfl,fun i h=>by obtain⟨k,n,e⟩:=hi i h;rw[e];exact .int k n⟩
theorem ZbK{ρ:Nat->Nat}{L:Nat->Prop}{r0 r1 r2 r3:Int}{ad:Option Addr}{n cap:Nat}(h:∀a,ad=some a->L a.block):AR ρ L (Zh r0 r1 r2 r3 ad n cap) (Zh r0 r1 r2 r3 (ad.map (Zl ρ)) n cap):=by
 have h5:VRel ρ L (.slice ad n cap) (.slice (ad.map (Zl ρ)) n cap):=by
  cases ad with
  |none=>exact .nilSlice n cap
  |some a=>exact .slice n cap (h a rfl)
 exact((((AR.nil.push (.int _ r0)).push (.int _ r1)).push (.int _ r2)).push (.int _ r3)).push h5
theorem Zdn{ρ:Nat->Nat}{L:Nat->Prop}{r0 r1 r2 r3:Int}{ad:Option Addr}{n cap:Nat}(s:Sh)(h:∀a,ad=some a->L a.block){j:Nat}{o:Obj}(hj:j<5)(ho:(shO (Zh r0 r1 r2 r3 ad n cap) r0 r1 r2 r3 s)[j]? =some o):
 ∃o',(shO (Zh r0 r1 r2 r3 (ad.map (Zl ρ)) n cap) r0 r1 r2 r3 s)[j]? =some o'/\ORel ρ L true o o':=by
 have hc:=ZbK (ρ:=ρ) (r0:=r0) (r1:=r1) (r2:=r2) (r3:=r3) (n:=n) (cap:=cap) h;obtain rfl|rfl|rfl|rfl|rfl:j=0\/j=1\/j=2\/j=3\/j=4:=by omega
 ·cases ho;exact⟨_,rfl,.cells hc fun _=>rfl⟩
 ·cases ho;exact⟨_,rfl,.cells (Z6K (Tryw.part_ints _ _ _ _ _ _ _)) fun _=>rfl⟩
 ·cases ho;exact⟨_,rfl,.cells hc fun _=>rfl⟩
 ·cases ho;refine⟨_,rfl,.cells (Z6K fun i hi=> ?_) fun _=>rfl⟩;have hi:i<2:=hi;obtain rfl|rfl:i=0\/i=1:=by omega
  all_goals exact⟨_,_,rfl⟩
 ·cases ho;refine⟨_,rfl,.cells (Z6K fun i hi=> ?_) fun _=>rfl⟩;have hi:i<5:=hi;obtain rfl|rfl|rfl|rfl|rfl:i=0\/i=1\/i=2\/i=3\/i=4:=by omega
  all_goals exact⟨_,_,rfl⟩
theorem ZbL{G n cap:Nat}{r0 r1 r2 r3:Int}{ad:Option Addr}{S:List Sh}{V V1 w w1 w2:World}{ρ:Nat->Nat}{o2:Nat->Prop}{O:Nat->Nat->Prop}{Fz:Nat->Prop}(hE:Emb ρ G Fz V w)(A3:S.length=n)(Lq:∀a,ad=some a->Nk.Live V a.block)
 (hV:Grew V V1 (kO (Zh r0 r1 r2 r3 ad n cap) r0 r1 r2 r3 S V.heap.size n))(hW:Grew w w1 (ZdI (Zh r0 r1 r2 r3 (ad.map (Zl ρ)) n cap) w.heap.size n))(Rt:∀b,Zcs w.heap.size w1 b->w2.heap[b]? =w1.heap[b]?)(Az:w1.heap.size<=w2.heap.size)(I1:∀b,Zcs w.heap.size w1 b->o2 b)
 (Du:PayAt (w.heap.size+1) n w2)(Ax:∀k,k<n->∃v,Has (w.heap.size+1) k v w2/\ResQ (Zh r0 r1 r2 r3 (ad.map (Zl ρ)) n cap) r0 r1 r2 r3 S k (O k) v w2)
 (hO:∀k,k<n->∀b,O k b->b<w2.heap.size/\b≠w.heap.size+3/\b≠w.heap.size+1/\¬o2 b)(Kt:∀k k',k<n->k'<n->k≠k'->∀b,O k b->¬O k' b):
 ∃ρ1:Nat->Nat,(∀b,Nk.Live V b->ρ1 b=ρ b)/\ρ1 V.heap.size=w.heap.size+1/\Emb ρ1 G Fz V1 w2/\(∀b,Nk.Live V b->Nk.Live V1 b)/\(∀b,Nk.Live V1 b->Nk.Live V b\/(w.heap.size<=ρ1 b/\ρ1 b≠w.heap.size+3))/\Nk.Live V1 V.heap.size/\(∀(b:Nat)(l:Loop),V1.heap[b]? =some (Obj.loop l)->V.heap[b]? =some (Obj.loop l)):=by
 classical
 have hk:∀k,∃β:Nat->Nat,k<n->Has (w.heap.size+1) k (.pointer (some ⟨β 1,0,none⟩)) w2/\∃s,S[k]? =some s/\Tryw.Five (Zh r0 r1 r2 r3 (ad.map (Zl ρ)) n cap) r0 r1 r2 r3 s (O k) β w2:=by
  intro k;by_cases Ck:k<n
  ·obtain⟨v,h1,s,β,h2,h3,h4⟩:=Ax k Ck;subst h3;exact⟨β,fun _=>⟨h1,s,h2,h4⟩⟩
  ·exact⟨id,fun h=>absurd h Ck⟩
 let β:Nat->Nat->Nat:=fun k=>Classical.choose (hk k)
 have hβ:∀k,k<n->Has (w.heap.size+1) k (.pointer (some ⟨β k 1,0,none⟩)) w2/\∃s,S[k]? =some s/\Tryw.Five (Zh r0 r1 r2 r3 (ad.map (Zl ρ)) n cap) r0 r1 r2 r3 s (O k) (β k) w2:=fun k Ck=>Classical.choose_spec (hk k) Ck
 clear_value β
 have Cc:w1.heap.size=w.heap.size+4:=hW.size;have B6:∀k j,k<n->j<5->w.heap.size+4<=β k j/\β k j<w2.heap.size:=by
  intro k j Ck hj;obtain⟨_,s,_,h5⟩:=hβ k Ck;obtain⟨h1,h2,h3,h4⟩:=hO k Ck _ (h5.1 j hj);refine⟨Nat.le_of_not_lt fun A4=>h4 (I1 _ ⟨by omega,h3,h2⟩),h1⟩
 let ρ1:Nat->Nat:=fun b=>if b<V.heap.size then ρ b else if b=V.heap.size then w.heap.size+1 else β ((b - V.heap.size - 1) / 5) ((b - V.heap.size - 1) % 5)
 have e0:∀b,b<V.heap.size->ρ1 b=ρ b:=fun b hb=>if_pos hb
 have e1:ρ1 V.heap.size=w.heap.size+1:=by
  show(if V.heap.size<V.heap.size then _ else if V.heap.size=V.heap.size then _ else _)=_;rw[if_neg (by omega),if_pos rfl]
 have e2:∀k j,j<5->ρ1 (V.heap.size+(1+5*k+j))=β k j:=by
  intro k j hj;show(if _ then _ else if _ then _ else _)=_;rw[if_neg (by omega),if_neg (by omega)];rw[show V.heap.size+(1+5*k+j) - V.heap.size - 1=5*k+j by omega,show(5*k+j) / 5=k by omega,show(5*k+j) % 5=j by omega]
 clear_value ρ1
 have hsV:V1.heap.size=V.heap.size+(1+5*n):=by rw[hV.size,Z0Z _ _ _ _ _ _ _ _ (by omega)]
 have Ut:∀b,Nk.Live V b->Nk.Live V1 b:=by
  rintro b ⟨o,h1,h2⟩;exact⟨o,(hV.old b (YF.1 h1).1).trans h1,h2⟩
 have hm:∀b,Nk.Live V b->Nk.Live V1 b/\ρ1 b=ρ b:=fun b hb=>⟨Ut b hb,e0 b hb.lt⟩
 have cases1:∀b,b<V1.heap.size->b<V.heap.size\/b=V.heap.size\/∃k j,k<n/\j<5/\b=V.heap.size+(1+5*k+j):=by
  intro b hb;rcases Nat.lt_trichotomy b V.heap.size with h|h|h
  ·exact .inl h
  ·exact .inr (.inl h)
  ·exact .inr (.inr ⟨(b - V.heap.size - 1) / 5,(b - V.heap.size - 1) % 5,by omega,by omega,by omega⟩)
 have newS:V1.heap[V.heap.size]? =some (.cells (ZH V.heap.size n n) 188):=by
  have:=hV.new 0 (by rw[Z0Z _ _ _ _ _ _ _ _ (by omega)];omega);rw[Nat.add_zero] at this;rw[this,<-A3];simp only[kO,YA]
 have newK:∀k j s,k<n->j<5->S[k]? =some s->V1.heap[V.heap.size+(1+5*k+j)]? =(shO (Zh r0 r1 r2 r3 ad n cap) r0 r1 r2 r3 s)[j]? :=by
  intro k j s Ck hj hs;rw[hV.new _ (by rw[Z0Z _ _ _ _ _ _ _ _ (by omega)];omega),Zef A3 hs hj]
 have liveK:∀k j,k<n->j<5->Nk.Live V1 (V.heap.size+(1+5*k+j)):=by
  intro k j Ck hj;obtain⟨_,s,hs,_⟩:=hβ k Ck;have h1:=newK k j s Ck hj hs;obtain rfl|rfl|rfl|rfl|rfl:j=0\/j=1\/j=2\/j=3\/j=4:=by omega
  all_goals exact⟨_,h1,rfl⟩
 have oldlt:∀b,Nk.Live V b->ρ b<w.heap.size:=by
  rintro b ⟨o,h1,h2⟩;obtain⟨o',h3,_⟩:=hE.obj b o h1 h2;exact(YF.1 h3).1
 have livelt:∀b,Nk.Live V1 b->b<V1.heap.size:=fun b hb=>hb.lt
 have liveOld:∀b,Nk.Live V1 b->b<V.heap.size->Nk.Live V b:=by
  rintro b ⟨o,h1,h2⟩ hb;exact⟨o,(hV.old b hb).symm.trans h1,h2⟩
 have adEq:ad.map (Zl ρ1)=ad.map (Zl ρ):=by
  cases ad with
  |none=>rfl
  |some a=>simp[Zl,(hm _ (Lq a rfl)).2]
 refine⟨ρ1,fun b hb=>(hm b hb).2,e1,⟨fun b o hb hl=> ?_,fun b b' hb hb' he=> ?_,fun b hb=>by have:=hE.fz b hb;omega,fun b hb=> ?_,by have:=hE.gV;omega,by have:=hE.gw;omega⟩,Ut,fun b hb=> ?_,⟨_,newS,rfl⟩,fun b l hb=> ?_⟩
 ·rcases cases1 b (YF.1 hb).1 with h|rfl|⟨k,j,Ck,hj,rfl⟩
  ·rw[hV.old b h] at hb;obtain⟨o',h1,h2,h3⟩:=hE.obj b o hb hl;have A4:ρ b<w.heap.size:=(YF.1 h1).1;refine⟨o',?_,fun hz=>(h2 hz).mono hm,fun hz=>⟨(h3 hz).1.mono hm,(h3 hz).2⟩⟩;rw[e0 b h,Rt _ ⟨by omega,by omega,by omega⟩,hW.old _ A4];exact h1
  ·rw[newS] at hb;cases hb;obtain⟨arr,Hz,X3⟩:=Du;refine⟨.cells arr 188,by rw[e1];exact Hz,fun _=> .cells ?_ (fun _=>rfl),fun h=>absurd (hE.fz _ h) (by omega)⟩;refine AR.mk (by rw[Z0l,X3]) fun i v v' hv hv'=> ?_
   have Aw:i<n:=by have:=(YF.1 hv).1;rwa [Z0l] at this
   rw[Z19 Aw,if_pos Aw] at hv;cases hv;have h3:=(hβ i Aw).1;unfold Has at h3;simp only[World.cell?,Hz] at h3;have h3:arr[i]? =some (.pointer (some ⟨β i 1,0,none⟩)):=h3;rw[h3] at hv';cases hv';have:=VRel.ptr (ρ:=ρ1) (L:=Nk.Live V1) (a:=⟨V.heap.size+(1+5*i+1),0,none⟩) (liveK i 1 Aw (by omega));simp only[Zl,e2 i 1 (by omega)] at this;rw[show V.heap.size+1+5*i+1=V.heap.size+(1+5*i+1) by omega];exact this
  ·obtain⟨_,s,hs,h5⟩:=hβ k Ck;rw[newK k j s Ck hj hs] at hb;obtain⟨o',h1,h2⟩:=Zdn (ρ:=ρ1) (L:=Nk.Live V1) s (fun a ha=>Ut _ (Lq a ha)) hj hb;rw[adEq] at h1;exact⟨o',by rw[e2 k j hj,h5.2.1 j hj];exact h1,fun _=>h2,fun h=>absurd (hE.fz _ h) (by omega)⟩
 ·have Ao:=livelt b hb;have O6:=livelt b' hb';rcases cases1 b Ao with h|rfl|⟨k,j,Ck,hj,rfl⟩
  ·have V3:=liveOld b hb h;have A4:=oldlt b V3;rw[e0 b h] at he;rcases cases1 b' O6 with h'|rfl|⟨k',j',Hj,hj',rfl⟩
   ·rw[e0 b' h'] at he;exact hE.inj b b' V3 (liveOld b' hb' h') he
   ·rw[e1] at he;omega
   ·rw[e2 k' j' hj'] at he;have:=B6 k' j' Hj hj';omega
  ·rw[e1] at he;rcases cases1 b' O6 with h'|rfl|⟨k',j',Hj,hj',rfl⟩
   ·rw[e0 b' h'] at he;have:=oldlt b' (liveOld b' hb' h');omega
   ·rfl
   ·rw[e2 k' j' hj'] at he;have:=B6 k' j' Hj hj';omega
  ·rw[e2 k j hj] at he;have Ru:=B6 k j Ck hj;rcases cases1 b' O6 with h'|rfl|⟨k',j',Hj,hj',rfl⟩
   ·rw[e0 b' h'] at he;have:=oldlt b' (liveOld b' hb' h');omega
   ·rw[e1] at he;omega
   ·rw[e2 k' j' hj'] at he;obtain⟨_,s,_,h5⟩:=hβ k Ck;obtain⟨_,s',_,h5'⟩:=hβ k' Hj;by_cases hkk:k=k'
    ·subst hkk;have:=h5.2.2 j j' hj hj' he;subst this;rfl
    ·exact(Kt k k' Ck Hj hkk _ (h5.1 j hj) (by rw[he];exact h5'.1 j' hj')).elim
 ·have hgV:=hE.gV;have hgw:=hE.gw;rcases cases1 b (livelt b hb) with h|rfl|⟨k,j,Ck,hj,rfl⟩
  ·rw[e0 b h];exact hE.low b (liveOld b hb h)
  ·rw[e1];omega
  ·rw[e2 k j hj];have:=B6 k j Ck hj;omega
 ·rcases cases1 b (livelt b hb) with h|rfl|⟨k,j,Ck,hj,rfl⟩
  ·exact .inl (liveOld b hb h)
  ·right;rw[e1];omega
  ·right
   rw[e2 k j hj];have:=B6 k j Ck hj;omega
 ·rcases cases1 b (YF.1 hb).1 with h|rfl|⟨k,j,Ck,hj,rfl⟩
  ·exact(hV.old b h).symm.trans hb
  ·rw[newS] at hb;cases hb
  ·obtain⟨_,s,hs,_⟩:=hβ k Ck;rw[newK k j s Ck hj hs] at hb;obtain rfl|rfl|rfl|rfl|rfl:j=0\/j=1\/j=2\/j=3\/j=4:=by omega
   all_goals cases hb
theorem Zdo{P:Program}{Sb:Nat->Prop}{X:MemAct->Prop}{Stop:Frame->List Frame->World->Prop}:∀{n:Nat}{fr:Frame}{cs:List Frame}{w:World},OwnTo P Sb X Stop n fr cs w->OwnTo P Sb (fun _=>True) Stop n fr cs w:=by
 intro n
 induction n with
 |zero=>exact fun h=>h
 |succ n ih=>
  intro fr cs w h d;obtain⟨fr1,cs1,w1,es,h1,h2,h3,h4⟩:=h d;exact⟨fr1,cs1,w1,es,h1,h2,fun e he=>⟨(h3 e he).1,trivial⟩,ih h4⟩
theorem Zeg{ρ:Nat->Nat}{G:Nat}{Fz:Nat->Prop}{V w:World}(h:Emb ρ G Fz V w)(d:Nat):Emb ρ G Fz V (w.at d):=⟨h.obj,h.inj,h.fz,h.low,h.gV,h.gw⟩
theorem kids[Tryq.GK]{E:Frame->List Frame->World->Prop}{bot':List Frame}{w0:World}{ρ:Nat->Nat}{Sb:Nat->Prop}{fr fr':Frame}{cs cs':List Frame}{V w:World}(hR:RelM Tryz.prog Tryq.fs Tryq.GK.gk bot' w0 ρ Sb fr cs V fr' cs' w)
 {r0 r1 r2 r3:Int}{ad:Option Addr}{n cap:Nat}{S:List Sh}(A3:S.length=n)(hS:Shots V ad S):
 ∃sh:Nat->Obj->Prop,(∀b ob,sh b ob->b<w.heap.size/\w.heap[b]? =some ob)/\∀j o w1 Ik,j<n->MnI w.heap.size n (Zh r0 r1 r2 r3 (ad.map (Zl ρ)) n cap) sh Ik j o w1->¬Sb Ik->w.heap.size+3<Ik->(∀b,Sb b->b<w.heap.size)->PayAt (w.heap.size+1) n w1->
  Z9l Tryz.prog link.tWg (w.heap.size+3) (w.heap.size+1) n Sb (ResQ (Zh r0 r1 r2 r3 (ad.map (Zl ρ)) n cap) r0 r1 r2 r3 S) j o (born Tryz.prog (Z8s w.heap.size Ik)) w1:=by
 rcases Nat.eq_zero_or_pos n with rfl|Cn
 ·exact⟨fun _ _=>False,fun _ _ h=>h.elim,fun j o w1 Ik hj=>by omega⟩
 ·obtain⟨s0,V4⟩:∃s,S[0]? =some s:=⟨_,YH (by omega)⟩;obtain⟨sb,off,rfl,Gb,_,X9⟩:=hS 0 s0 V4;obtain⟨c,e,f,hV⟩:∃c e f,V.heap[sb]? =some (.cells c e f):=by
   have:=X9.c0;unfold World.cell? at this;split at this
   ·rename_i c e f h;exact⟨c,e,f,h⟩
   ·cases this
  obtain⟨o',hw,ho,hq⟩:=hR.emb.obj sb _ hV rfl;have ho:ORel ρ (Nk.Live V) false (.cells c e f) o':=by
   by_cases hz:Tryq.GK.gk sb=true
   ·exact(hq hz).1
   ·exact(ho hz).weaken
  clear hq;cases ho with
  |cells har hf=>
   rename_i c' f';have A4:ρ sb<w.heap.size:=(YF.1 hw).1;refine⟨fun b ob=>b=ρ sb/\ob= .cells c' e f',fun b ob h=> ?_,fun j o w1 Ik hj hI M8 J3 Hg hp=> ?_⟩
   ·rw[h.1,h.2];exact⟨A4,hw⟩
   ·obtain⟨s,hs⟩:∃s,S[j]? =some s:=⟨_,YH (by omega)⟩;obtain⟨b,off',eb,_,hc,B9⟩:=hS j s hs;cases eb;exact Zee hj hs hc B9 hV har (hR.emb.low sb ⟨_,hV,rfl⟩) hR.emb.gV hR.emb.gw Hg (hR.shun sb ⟨_,hV,rfl⟩) A4 hI M8 J3 hp
theorem ZbM{P:Program}{fs:Array Func}{Gs:Nat->Bool}{ρ:Nat->Nat}{L:Nat->Prop}{bot bot' cs cs':List Frame}(h:CsR P fs Gs ρ L bot bot' cs cs')(A9:cs≠bot):
 ∃c c' cs0 cs0',cs=c::cs0/\cs'=c'::cs0'/\FrR P fs Gs ρ L c c'/\(cs0=bot->c.roundOf=none)/\CsR P fs Gs ρ L bot bot' cs0 cs0':=by
 cases h with
 |nil=>exact absurd rfl A9
 |cons h1 h2 h3=>exact⟨_,_,_,_,rfl,rfl,h1,h2,h3⟩
theorem Zeh{P:Program}{fs:Array Func}{Gs:Nat->Bool}{ρ:Nat->Nat}{L:Nat->Prop}{b:Frame}{bs bot' cs cs':List Frame}(h:CsR P fs Gs ρ L (b::bs) bot' cs cs'):cs≠[]:=by
 cases h<;>simp
theorem phase82[Tryq.GK]{E:Frame->List Frame->World->Prop}(hE:IsEnd E)(bot':List Frame)(w0:World):Zbd Tryz.prog Tryq.fs Tryq.GK.gk E bot' w0:=by
 intro f a a' cs cs' V ρ Sb gs w sl t q Hy Db Xa har Ad hH hR hM;have hf:f=155:=by
  rcases Tryq.ent_kept Db with h|h
  ·exact absurd (Tryq.tmK h) Hy
  ·exact h
 subst hf;have ha:a.size=1:=Xa rfl;obtain⟨x,rfl⟩:∃x,a= #[x]:=⟨a[0],by apply Array.ext;simp[ha];intro i h1 h2;simp at h2;subst h2;rfl⟩
 obtain⟨x',rfl⟩:∃x',a'= #[x']:=⟨a'[0]'(by rw[<-har.1];simp),by
  have:a'.size=1:=by rw[<-har.1];rfl
  apply Array.ext;simp[this];intro i h1 h2;simp at h2;subst h2;rfl⟩
 have hx:VRel ρ (Nk.Live V) x x':=har.2 0 (by simp);have Ay:=hR.self;have Gz:VRel id (Nk.Live V) x x:=by
  have:=Ay.fro.tmps.at 0;rw[Tryq.enterK] at this;exact this
 obtain⟨r0,r1,r2,r3,ad,n,cap,S,rfl,A3,hn,J5⟩:=Tryq.pre_k hE Ad Gz ⟨hH,Ay,fun g hg=>(hR.glob g hg).1,Ad⟩;have hx':=Za4 hx;subst hx';have Lq:∀a,ad=some a->Nk.Live V a.block:=by
  rintro a rfl;cases Gz with
  |agg h1 h2=>
   have:=h2 4 (by simp[Zh]);simp only[Zh] at this;cases this with
   |slice l c h=>exact h
 obtain⟨c,c',cs0,cs0',rfl,rfl,hfc,K4,Rv⟩:=ZbM hR.cso Ad;have Fq:∀b,Sb b->b<w.heap.size:=hR.sbl;obtain⟨sh,B9,J4⟩:=kids (E:=E) (r0:=r0) (r1:=r1) (r2:=r2) (r3:=r3) (cap:=cap) hR A3 J5
 obtain⟨K0,Ez⟩:=pre82 (Sb:=Sb) (cs:=c'::cs0') (w:=w) (cc:=Zh r0 r1 r2 r3 (ad.map (Zl ρ)) n cap) (Stop:=fun fr cs w1=>∃m,fr=(base 155).at (ZD 23 m []) (.code L82::kL)/\cs=c'::cs0'/\Hm w.heap.size n 0 m/\Grew w w1 (ZdI (Zh r0 r1 r2 r3 (ad.map (Zl ρ)) n cap) w.heap.size n)) hn rfl Fq
  (fun m w1 hG h1 h3 h4 h14 h15=>⟨m,rfl,rfl,⟨h1,h3,h4,h14,h15⟩,hG⟩)
 obtain⟨N1,t1,fr1,cs1,gs1,w1,sl1,q1,Rw,⟨m1,rfl,rfl,Dr,Eh⟩,Kj,H8⟩:=Z7y (sl:=sl) (fun e he=>Za3 he _) K0 Ez hM (fun op A1=>Z7B (hM.past.seen op A1) (by omega));obtain⟨N2,m2,t2,Rx,hF⟩:=Zdl (sl:=sl1) (cs:=c'::cs0') (sh:=sh) hn Fq Eh Dr Kj H8 B9 (Zdk _ _ _ _ _ S) J4;obtain⟨gs2,w2,sl2,a2,o2,O,q2,rfl,Pw,⟨m3,No,rfl,Uz⟩,R0,Ax,hO,Kt,Du,A5,Xb,J6,Xc⟩:=hF;have Cc:w1.heap.size=w.heap.size+4:=Eh.size;have Rb:MacM Tryz.prog (fun b=>Sb b\/b=w.heap.size+3) ((base 155).at (ZD 23 m3 []) (.inRegion q9 []::kT)) (c'::cs0') gs2 w2 t2 q2:=⟨Pw,Xb,J6,Xc⟩;have Xd:¬(Sb (w.heap.size+2)\/w.heap.size+2=w.heap.size+3):=by
  rintro(h|h)
  ·have:=Fq _ h;omega
  ·omega
 obtain⟨K3,Ry⟩:=Zed (n:=n) (Sb:=fun b=>Sb b\/b=w.heap.size+3) (cs:=cs0') (c:=c') (N:=w.heap.size) (w:=w2) (m:=m3) (Stop:=fun fr cs w3=>fr=c'.finish (.slice (some ⟨w.heap.size+1,0,none⟩) n n)/\cs=cs0'/\∃d,w3=w2.at d) No.t3 (by simp only[World.cell?,Uz.out];rfl) Xd (by have:=Uz.sz;omega) (fun d=>⟨rfl,rfl,d,rfl⟩);obtain⟨N3,t3,fr3,cs3,gs3,w3,sl3,q3,Rz,⟨rfl,rfl,d,rfl⟩,Ct,_⟩:=Z7y (sl:=sl2) (X:=fun _=>True) (fun _ _=>trivial) K3 (Zdo Ry) Rb (fun _ _=>trivial);obtain⟨N4,S1⟩:=Nk.runNT_add Rw Rx;obtain⟨N5,S2⟩:=Nk.runNT_add S1 Rz;have Dt:=Tryq.curves_any r0 r1 r2 r3 ad cap V S n A3 hn J5;obtain⟨e,V1,fr,⟨rfl,hGV⟩,⟨k,Af⟩,hfn,Dp⟩:=Dt (c::cs0);have S3:runN (Z6 Tryz.prog Tryq.fs) (k+1) (lone (Frame.enter (Z6 Tryz.prog Tryq.fs) 155 #[.agg (Zh r0 r1 r2 r3 ad n cap)] .normal) (c::cs0) V)= .next (lone (c.finish (.slice (some ⟨V.heap.size,0,none⟩) n n)) cs0 V1):=by
  have h1:runN (Z6 Tryz.prog Tryq.fs) k (lone (Frame.enter (Z6 Tryz.prog Tryq.fs) 155 #[.agg (Zh r0 r1 r2 r3 ad n cap)] .normal) (c::cs0) V)= .next (lone fr (c::cs0) V1):=Af;have h2:step (Z6 Tryz.prog Tryq.fs) (lone fr (c::cs0) V1)= .next (lone (c.finish (.slice (some ⟨V.heap.size,0,none⟩) n n)) cs0 V1):=step_leave_returned Dp;rw[runN_add,h1];simp only[runN,h2]
 obtain⟨Ig,Ci⟩:=Z6A Tryq.soloK hE (k+1) hH Ay (fun g hg=>(hR.glob g hg).1) S3 (Zeh Rv);obtain⟨ρ1,B1,Bf,Hb,Jw,Cj,O7,S4⟩:=ZbL (w2:=w2) (o2:=o2) (O:=O) hR.emb A3 Lq hGV Eh (fun b hb=>(A5.old b hb).2) A5.size R0 Du Ax hO Kt;have hm:∀b,Nk.Live V b->Nk.Live V1 b/\ρ1 b=ρ b:=fun b hb=>⟨Jw b hb,B1 b hb⟩
 have hv:VRel ρ1 (Nk.Live V1) (.slice (some ⟨V.heap.size,0,none⟩) n n) (.slice (some ⟨w.heap.size+1,0,none⟩) n n):=by
  have:=VRel.slice (ρ:=ρ1) (a:=⟨V.heap.size,0,none⟩) n n O7;simp only[Zl,Bf] at this;exact this
 have Qz:=(hfc.mono hm).finish hv;have oldlt:∀b,Nk.Live V b->ρ b<w.heap.size:=by
  rintro b ⟨o,h1,h2⟩;obtain⟨o',h3,_⟩:=hR.emb.obj b o h1 h2;exact(YF.1 h3).1
 refine⟨N5,_,t3,ρ1,fun b=>Sb b\/b=w.heap.size+3,_,cs0,V1,_,_,gs3,w2.at d,sl3,q3,S2,rfl,Ig,fun h=>by have:=congrArg List.length h;simp at this,?_,Ct⟩;refine⟨Ci,.own Qz,Rv.mono hm,fun _=>Qz,fun h=>(Z0w _ _).trans (K4 h),Zeg Hb d,fun b l hb=>hR.loops b l (S4 b l hb),fun g hg=>⟨Jw g (hR.glob g hg).1,(B1 g (hR.glob g hg).1).trans (hR.glob g hg).2⟩,fun b hb hs=> ?_,fun b hb=> ?_,fun b hb=> ?_,fun b hb hg=> ?_,?_,?_,?_,?_⟩
 ·rcases Cj b hb with h|⟨h1,h2⟩
  ·rw[B1 b h] at hs;rcases hs with hs|hs
   ·exact hR.shun b h hs
   ·have:=oldlt b h;omega
  ·rcases hs with hs|hs
   ·have:=Fq _ hs;omega
   ·exact h2 hs
 ·show b<w2.heap.size;have:=A5.size;rcases hb with hb|hb
  ·have:=Fq b hb;omega
  ·omega
 ·have A4:b<w.heap.size:=YS hb hR.grown;have Az:=Eh.size;exact((A5.old b ⟨by omega,by omega,by omega⟩).2.trans (Eh.old b A4)).trans (hR.old b hb)
 ·rcases Cj b hb with h|⟨h1,_⟩
  ·rw[B1 b h];exact hR.far b h hg
  ·have:=hR.grown;omega
 ·show w0.heap.size<=w2.heap.size;have:=A5.size;have:=hR.grown;omega
 ·exact A5.tape.trans (Eh.tape.trans hR.tape)
 ·exact A5.os.trans (Eh.oss.trans hR.os)
 ·exact A5.output.trans (Eh.output.trans hR.output)
end Go.Proofs.Tryv
section
namespace Go.Nk
open Go Go.RowKit Go.ChangeShapes Go.WideShapes Go.Conc
open Go.Proofs.Tryq (isS isA Z3z)
section
variable {P:Program} {w:World} {r:Reach} {base:Nat}
theorem Zdp{a:Addr}{e:TypeId}{n:Nat}(h:w.has P r base a e n):Z1s w a.block=true:=by
 obtain⟨_,_,row,cells,h,_⟩:=h;unfold World.shape? at h;split at h
 ·rename_i c t f hh;unfold Z1s;rw[hh]
 ·cases h
theorem Z8u{u:TypeId}{a:Addr}{l c:Nat}(h:Cell.okWide P w r base u (.slice (some a) l c)):Z1s w a.block=true:=by
 unfold Cell.okWide at h;split at h
 ·rename_i h1;cases h1
 ·rename_i h1;cases h1
 ·rename_i h1;cases h1
 ·rename_i h1;cases h1
 ·rename_i h1;cases h1
 ·rename_i h1;cases h1
 ·rename_i h1;cases h1
 ·unfold Cell.ok at h;split at h<;>first|(rename_i h1;cases h1;first|done|exact Zdp h.2.2)|(exact False.elim h)
theorem Zei{t:TypeId}{v:Value}(h:Value.okWide P w r base t v)(hs:isS P t=false)(ha:isA P t=false):Cell.okWide P w r base t v:=by
 unfold Value.okWide at h;split at h
 ·rename_i e;simp[isS,e] at hs
 ·rename_i e;simp[isA,e] at ha
 ·exact h
theorem ZiU{t:TypeId}{v:Value}(h:Value.okWide P w r base t v)(hs:isS P t=true):∃cs,v= .agg cs/\cs.size=P.cellsOf t/\∀(i:Nat)(x:Value),cs[i]? =some x->∃u,Cell.okWide P w r base u x:=by
 obtain⟨fs,hu⟩:=Z3z hs;unfold Value.okWide at h;rw[hu] at h;obtain⟨cs,h1,h2,ts,_,_,h3⟩:=h;exact⟨cs,h1,h2,fun i x hx=>by obtain⟨u,_,hu⟩:=h3 i x hx;exact⟨u,hu⟩⟩
end
theorem Z4X{H:Type}{enc:TypeId×Value->H}{P:Program}(hl:laidOutB P=true){W W':World}(hb:Below W.heap.size W W'):∀{ts:List TypeId}{vs:List Value}{ds:List (DataW H)}{p:List MemPlace},
 (ts.all fun t=>P.readableRec t&&decide (t<P.types.size))=true->DataW.TrodAll enc P W 0 (fun _=>true) true ts vs ds p->(∀x∈p,x.block<W.heap.size)->DataW.TrodAll enc P W' 0 (fun b=>decide (b<W.heap.size)) true ts vs ds p:=by
 intro ts
 induction ts with
 |nil=>
  intro vs ds p _ h _;cases vs<;>cases ds<;>first|exact h|exact h.elim
 |cons t ts ih=>
  intro vs ds p hr h A4;cases vs<;>cases ds<;>first|exact h.elim|skip
  rename_i v vs d ds;obtain⟨p1,q1,h1,h2,rfl⟩:=h;simp only[List.all_cons,YG,decide_eq_true_eq] at hr;exact⟨p1,q1,Below.trod hl hr.1.1 hr.1.2 h1 hb (fun x hx=>A4 x (List.mem_append_left _ hx)),ih hr.2 h2 (fun x hx=>A4 x (List.mem_append_right _ hx)),rfl⟩
theorem Z3E{H:Type}{enc:TypeId×Value->H}{a:Assume}{C:Checked}{os:Os}{f:FuncId}{fn:Func}{s:ChangeSpec}{conds:List PathCond}{apart fresh H0 again:Bool}{L:List (String×DataW Unit)}
 (own:ownKnob C.prog.godebug=none)(started:os.Started)(hfn:C.prog.funcs[f]? =some fn)
 (witness:∃(w:World)(tape:Tape)(i:Input),w.os=os/\(w.forCall tape i).Shaped C.prog/\i.vars=[]/\Input.okWide C.prog (w.forCall tape i) .any w.heap.size f i/\
   ((s.pre enc C.prog fn conds apart (w.forCall tape i).memory i.args/\laidMetH C.prog L (w.forCall tape i).memory)/\sizedMet enc C.prog fn (OpenSpec.ofChange s) apart (w.forCall tape i).memory i.args)/\a.holds C.prog (lone (Frame.enter C.prog f i.args .normal) [] (w.forCall tape i)))
 (runs:∀(W:World)(base:Nat)(args:Array Value)(ds gs:List (DataW H))(before:List MemPlace),W.ShapedOpen C.prog->
   (∀(j:Nat) t v,fn.params[j]? =some t->args[j]? =some v->Value.okWide C.prog W .any base t v)->
   DataW.Whole enc C.prog fn.params.toList s.vars apart W args.toList ds gs before->laidMetH C.prog L W->
   ∃M last o w' t',runNT C.prog (M+1) (solo (G (Frame.enter C.prog f args .normal) []) W) #[]=(.ended o w',t')/\runN C.prog M (solo (G (Frame.enter C.prog f args .normal) []) W)= .next last/\
    step C.prog last= .ended o w'/\Conc.Good C.prog (fun v W'=>s.post enc C.prog fn apart fresh H0 again W args v W') last o w' t'):
 ReturnsInLeavingWide a C os f .any (fun w args=>(s.pre enc C.prog fn conds apart w args/\laidMetH C.prog L w)/\sizedMet enc C.prog fn (OpenSpec.ofChange s) apart w args) (s.post enc C.prog fn apart fresh H0 again):=by
 refine returnsInLeavingWide_of_good own started witness ?_;intro w tape i _ B9 _ B5 Ez Xe;obtain⟨_,_,_,fn',Nj,_,_,_,_,Ea⟩:=B5;have e:fn'=fn:=YT (Nj.symm.trans hfn);subst e;obtain⟨⟨⟨ds,gs,before,hw,_⟩,hL⟩,_⟩:=Ez;have hw':=DataW.Whole.of_heap (w':=w.forCall tape i) (by rfl) hw;have hL':laidMetH C.prog L (w.forCall tape i):=laidMetH.of_heap (by rfl) hL;obtain⟨M,last,o,w',t',h1,h2,h3,h4⟩:=runs (w.forCall tape i) w.heap.size i.args ds gs before B9 Ea hw' hL';exact⟨M,last,o,w',t',h1,h2,h3,h4.mono fun v hp=>ChangeSpec.post_blind hp⟩
end Go.Nk
namespace Go.Proofs.Tryq
open Go Go.Nk Go.RowKit Go.ChangeShapes Go.WideShapes Go.ChangeAt Go.Conc
attribute [local instance] theBan
theorem globals4:Tryz.prog.globals.size=4:=by kernel_rfl
theorem Za5{W:World}(h:Meas W):Meas (Zx W):=fun i hi=>Z0d rfl (h i hi) (by
 obtain rfl|rfl|rfl|rfl|rfl|rfl:i=0\/i=1\/i=2\/i=3\/i=4\/i=5:=by omega
 all_goals rfl)
theorem Za6{W:World}(h:Most W):Most (Zx W):=⟨Z0d rfl h.m0 rfl,Z0d rfl h.m1 rfl⟩
theorem ZbN{W:World}(h:Deb W):Deb (Zx W):=fun i hi=>Z0d rfl (h i hi) rfl
theorem Z5T{W:World}{base:Option Addr}{L:List Sf}(h:RawA W base L):RawA (Zx W) base L:=fun i x hi=>by
 obtain⟨b,off,h1,h2,h3,h4⟩:=h i x hi;exact⟨b,off,h1,by rw[Z1l];exact h2,⟨Z0d rfl h3.k0 rfl,Z0d rfl h3.k1 rfl,Z0d rfl h3.k2 rfl,Z0d rfl h3.k3 rfl,Z0d rfl h3.k4 rfl,Z0d rfl h3.k5 rfl,Z0d rfl h3.k6 rfl⟩,h4⟩
theorem Za7{W:World}(t)(h:Most W):Most (retape t W):=⟨h.m0,h.m1⟩
theorem Za8{W:World}(t){base:Option Addr}{L:List Sf}(h:RawA W base L):RawA (retape t W) base L:=fun i x hi=>by
 obtain⟨b,off,h1,h2,h3,h4⟩:=h i x hi;exact⟨b,off,h1,h2,⟨h3.k0,h3.k1,h3.k2,h3.k3,h3.k4,h3.k5,h3.k6⟩,h4⟩
noncomputable def Zej(i:Nat):Bool:=match fs[i]?,Tryz.prog.funcs[i]? with
 |some a,some b=>a.body.isSome&&b.body.isSome&& !(a.name== "runtime.NumGoroutine")&& !(b.name== "runtime.NumGoroutine")
 |_,_=>false
theorem Zek{f:FuncId}(h:Zej f=true):Ent Tryz.prog fs f:=by
 unfold Zej at h;split at h
 ·rename_i a b ha hb;simp only[YG,Bool.not_eq_true'] at h;exact⟨a,b,ha,hb,h.1.1.1,h.1.1.2,h.1.2,h.2⟩
 ·cases h
theorem Zdq{f:FuncId}(h:Zej f=true):Ent (Z6 Tryz.prog fs) fs f:=by
 obtain⟨a,b,ha,hb,h1,h2,h3,h4⟩:=Zek h;exact⟨a,a,ha,ha,h1,h1,h3,h3⟩
theorem ZbO{f:FuncId}{fn:Func}{tr:Tmp}(hk:f∈keptList)(hfn:Tryz.prog.funcs[f]? =some fn)(D8:fs[f]? =Tryz.prog.funcs[f]?)(Db:Zej f=true)(hr:fn.results= #[.tmp tr])(hi:Tryz.prog.inits.idxOf? f=none){W:World}(An:∀g,g<4->Z1s W g=true)(h4:4<=W.heap.size)
 {args:Array Value}(ha:AR id (Nk.Live (Zx W)) args args)(h:∀t,Calls prog f args (retape t (Zx W)) fun e _=>e= .returned (.bool true)):
 ∃N last o w' t',runNT Tryz.prog (N+1) (Go.Conc.solo (G (Frame.enter Tryz.prog f args .normal) []) W) #[]=(.ended o w',t')/\runN Tryz.prog N (Go.Conc.solo (G (Frame.enter Tryz.prog f args .normal) []) W)= .next last/\step Tryz.prog last= .ended o w'/\
  Conc.Good Tryz.prog (fun v w'=>v= .bool true/\Below W.heap.size W w') last o w' t':=by
 letI:GK:=⟨Z1s W,fun g hg=>An g (of_decide_eq_true hg)⟩
 have hR:∀(t:Nat->Question->Nat)(v:Value)(V:World),(fun(v:Value)(_:World)=>v= .bool true) v V->(fun(v:Value)(_:World)=>v= .bool true) v (retape t V):=fun _ _ _ h=>h
 obtain⟨N,last,o,w',t',h1,h2,h3,h5⟩:=Zbf (P:=Tryz.prog) (fs:=fs) (Gs:=Z1s W) (tr:=tr) (R:=fun v _=>v= .bool true) soloK fsOk hR hfn (D8.trans hfn) hr hi (Zdq Db) (tmK hk) (Go.Proofs.Tryv.phase82 (Z2a hR) [] W) (Z8h rfl (by rw[globals4];exact h4)) ha (fun t=>(h t).mono fun e V' he=>⟨_,he,rfl⟩);refine⟨N,last,o,w',t',h1,h2,h3,h5.mono fun v hp=> ?_⟩;obtain⟨v0,V,t,ρ,Rl,hv,_,B1,Az,e1,e2,e3⟩:=hp;have Rl:v0= .bool true:=Rl;subst Rl;refine⟨?_,e2,e1,e3,Az,B1⟩;cases hv;rfl
end Go.Proofs.Tryq
end
