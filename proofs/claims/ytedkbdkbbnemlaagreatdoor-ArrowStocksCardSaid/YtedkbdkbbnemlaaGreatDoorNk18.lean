import Derived.Test.YtedkbdkbbnemlaaGreatDoorNkA
import Derived.Test.YtedkbdkbbnemlaaGreatDoorNk17
import Derived.Conc.CrowdStepC2
set_option linter.all false
namespace Go.Nk
set_option maxHeartbeats 3200000
open Go Go.Conc
open Go.ConcN (ShN WgLive PayAt Has CTag RW upd upd_same upd_ne WD RelBy Vc Ssum cnt phi isOpen isW3 isFin OpenSt AllQuit pend sumTo sumTo_upd Vc_upd Vc_le others_uncounted le_sumTo bk_cell deafBehind_idle norel_of_Bk)
open Go.ConcR (KK WgAt stA smA rd wr mk Payload DC0 g_of_ofEvents Bk ofEvent_loc_mark ofEvent_cell bk_of_mute)
variable [Payload]
section
variable {P:Program} {ty:TypeId} {Wg C n:Nat} {Sb:Nat->Prop} {Res:Nat->(Nat->Prop)->Value->World->Prop} {End AnchW:(Nat->Prop)->Goroutine->World->Prop} {N0:Nat} {w0:World} {G0:Nat->Prop}
 {gs:Array Goroutine} {w w':World} {sl:Option (Nat×Nat)} {j:Nat} {D:Nat->WD} {O Rk:Nat->Nat->Prop} {val:Nat->Value} {F:Nat->Tr} {q:Nat->Nat} {tag:CTag} {Giv o:Nat->Prop} {f0:Tr×Nat} {d0:Nat} {a:Goroutine} {t:Trace} {st sm:Int}
theorem GoT.cases{main:Bool}{R:(Nat->Prop)->World->World->Prop}{Dd:(Nat->Prop)->World->World->Array Event->Prop}{Stop:(Nat->Prop)->Goroutine->World->Prop}{r:Tr}{o:Nat->Prop}{g:Goroutine}{w:World}(refl:R o w w)(h:GoT P main R Dd Stop r o g w):
 (∀w₁,R o w w₁->Stop o g w₁)\/∃r' g' w' es,ZaS r' r/\stepG P main g w= .go g' w' es/\Dd o w w' es/\GoT P main R Dd Stop r' (grow o w w') g' w':=by
 cases r with
 |leaf=>exact .inl h
 |node f=>
  rcases h with h|⟨_,h⟩
  ·exact .inl h
  ·obtain⟨g',w',es,e,d,x⟩:=goes_iff.1 (h w refl);exact .inr ⟨f w,g',w',es,⟨f,w,rfl,rfl⟩,e,d,x⟩
omit [Payload] in
theorem ZbA(m:Nat)(w:World):ZaS (Tr.ofNat m) (Tr.ofNat (m+1)):=⟨_,w,rfl,rfl⟩
theorem Z9Z(hR:ResOk Res)(hN:0<N0)(Dj:∀o g w,AnchW o g w->g.status= .running)(C6:∀o g w,End o g w->g.status= .running)(hn:n<2147483648)(Uv:j+pend tag<=n)
 (ha:gs[0]? =some a)(Ad:CS P ty Wg C n Sb Res End AnchW tag j Giv o f0 d0 a w)(A6:ComN P ty Wg C n Sb Res N0 j gs w t D O Rk val F q Giv o d0)(A5:BaseN w0 G0 w Giv)(Au:WgAt ty Wg w st sm)(A7:Go.ConcN.Mode j D tag st sm)(C3:tag= .ret->AcqN Wg N0 j t)
 {k:Nat}(hk:k<j){g:Goroutine}(hg:gs[N0+k]? =some g)(Af:g.status= .running):
 Z1y P ty Wg C n Sb Res End AnchW N0 w0 G0 ((phi n (Vc j D) tag+Ssum j D,N0+j,F),f0) (runT P (crowd gs w sl) (N0+k)) t:=by
 obtain⟨g₁,hg₁,hs⟩:=A6.wk k hk;obtain rfl:g=g₁:=by rw[hg] at hg₁;exact YT hg₁
 generalize Ac:(D k).stage=s at hs;generalize Rj:(D k).deaf=dd at hs;generalize hfu:F (N0+k)=fu at hs;generalize hva:val k=va at hs;generalize hOk:O k=Ok0 at hs;have hVj:=Vc_le j D;have O1:Deaf t (N0+k)=dd:=by rw[A6.deafW k hk,Rj]
 have O2:=A6.geo.hWg;have nr:s≠1->tag≠.ret:=fun h=>A7.not_ret hk (by omega)
 cases hs with
 |work h=>
  subst hOk;rcases GoT.cases (RWo.refl _ w) h with Ab|⟨r',g',w',es,A4,Ai,hD,hg'⟩
  ·obtain⟨v,Ax,_,Iz,g',Ai,m₂,F9⟩:=Ab w (RWo.refl _ w)
   refine Z3D (v':=v) (Ok:=O k) (r':=Tr.ofNat m₂) hR hN Dj C6 ha Ad A6 A5 hk hg Ai (.refl _ w) (fun _ _ _=>RWo.refl _ w) (fun _ h=>h) (fun _ h=> .inl h) (.late (by omega) (.k1 F9)) ?_ ?_ (by intro e he;simp at he;subst he;simp[mk]) (by rw[Rj];rfl) (fun _=>⟨t.size,?_⟩)
    (fun _=>⟨by simpa using Iz,Ax⟩) Au (fun _ ht _=>(A7.counted hk (by omega) (.inl rfl) _ _).retag ht) (fun e=>absurd e (nr (by omega))) (.inl ⟨by omega,by simp[cnt,Ac]⟩)
   ·intro op A1;obtain⟨e,he,rfl⟩:=Go.Conc.mem_ofEvents A1;simp at he;subst he;exact⟨rfl,fun x hx=>by cases hx⟩
   ·intro op A1;obtain⟨e,he,rfl⟩:=Go.Conc.mem_ofEvents A1;simp at he;subst he;exact O2
   ·refine⟨RelBy.new O1 _ _,fun i x hi hgi hx=> ?_⟩;obtain⟨op,A1,Ng⟩:=touch_of hx;rcases getElem?_append_cases A1 with⟨A4,_⟩|⟨_,Er⟩
    ·omega
    ·obtain⟨e,he,rfl⟩:=Go.Conc.mem_ofEvents Er;simp at he;subst he;cases Ng
  ·refine Z3D (v':=va) hR hN Dj C6 ha Ad A6 A5 hk hg Ai (RMo.of_work A6.geo hk hD) (fun k' hk' A9=>RWo.of_work A6.geo hk hk' A9 hD) (fun b hb=> .inl hb) (fun b hb=>hb) (.work hg') (Zdg fun e he=>(hD.evs e he).1)
    (fun op A1=>by obtain⟨e,he,rfl⟩:=Go.Conc.mem_ofEvents A1;exact(hD.evs e he).2) (fun e he=>(hD.evs e he).1.2.2.2) (by rw[Rj];exact deafBehind_idle (fun e he=>⟨(hD.evs e he).1.2.1,(hD.evs e he).1.2.2.1⟩) 0) (fun h=>by omega) (fun h=>by omega)
    (Au.of_block (hD.stay Wg O2 (fun ho=>(A6.geo.sep k hk _ ho).2.1 rfl) (Ne.symm A6.geo.hCW))) (fun _ ht _=>Go.ConcN.Mode.retag (by have:=A7.same (i:=k) 0 0;rwa [Ac] at this) ht) (fun e=>absurd e (nr (by omega))) (.inr ⟨Ac.symm,by rw[hfu];exact A4⟩)
 | @late s m d o' g w Cx hs=>
   subst hva;subst hOk
   have bookG:∀{g':Goroutine}{w':World}{es:Array Event}{s' m' dd':Nat}{st' sm':Int},stepG P false g w= .go g' w' es->Aside Wg w w'->WgAt ty Wg w' st' sm'->(∀e∈es,Bk Wg e)->
    (∀jx e,es[jx]? =some e->(MemAct.ofEvent e).touch? =none\/0<deafBehind dd (es.extract 0 jx))->s'<=6->Go.ConcN.WSit P ty Wg C n (fun _ _=>False) (fun _ _=>False) 0 (k+1) (val k) s' m' dd' g' w'->deafBehind dd es=dd'->
    (∀tag',(tag'=tag\/(tag= .blk/\tag'= .w3))->(mayWake P g=true->g'.status= .running->tag'≠.blk)->Go.ConcN.Mode j (upd D k ⟨s',0,dd'⟩) tag' st' sm')->(tag= .ret->AcqN Wg N0 j (t++MemOp.ofEvents (N0+k) g.frame.fn g.frame.place es))->((s'<s/\cnt ⟨s',0,dd'⟩<=cnt (D k))\/(s'=s/\m'+1=m))->
    Z1y P ty Wg C n Sb Res End AnchW N0 w0 G0 ((phi n (Vc j D) tag+Ssum j D,N0+j,F),f0) (runT P (crowd gs w sl) (N0+k)) t:=by
    intro g' w' es s' m' dd' st' sm' Ai Fd De Ex hd h6 hs' Ef Dv J0 A4
    refine Z3D (v':=val k) (Ok:=O k) (r':=Tr.ofNat m') hR hN Dj C6 ha Ad A6 A5 hk hg Ai (RMo.of_wg A6.geo Fd ⟨_,_,De⟩) (fun k' hk' _=>RWo.of_wg A6.geo hk' Fd ⟨_,_,De⟩) (fun _ h=>h) (fun _ h=> .inl h) (.late h6 hs') (Z8o Ex) (Z5Q (by rw[Fd.size];exact O2) Ex)
     (norel_of_Bk Ex) (by rw[Rj];exact Ef) (fun _=> ?_) (fun _=> ?_) De Dv J0 ?_
    ·obtain⟨r,hr⟩:=A6.rel k hk (by omega);exact⟨r,hr.app (Go.ConcN.RelBy.book hr.by_ O1 _ _ Ex hd) (fun op A1 _=>Z4b Ex op A1)⟩
    ·obtain⟨h1,h2⟩:=A6.has k hk (by omega);exact⟨(Z6G (Fd.block C A6.geo.hCW) k).trans h1,hR _ _ _ _ _ (fun b hb=>Fd.block b (A6.geo.sep k hk b hb).2.1) h2⟩
    ·rw[Ac,hfu];exact A4.imp id fun⟨h1,h2⟩=>⟨h1,by subst h2;exact ZbA m' w⟩
   have book:∀{g':Goroutine}{w':World}{es:Array Event}{s' m' dd':Nat}{st' sm':Int},stepG P false g w= .go g' w' es->Aside Wg w w'->WgAt ty Wg w' st' sm'->(∀e∈es,Bk Wg e)->
    (∀jx e,es[jx]? =some e->(MemAct.ofEvent e).touch? =none\/0<deafBehind dd (es.extract 0 jx))->s'<=6->Go.ConcN.WSit P ty Wg C n (fun _ _=>False) (fun _ _=>False) 0 (k+1) (val k) s' m' dd' g' w'->deafBehind dd es=dd'->
    Go.ConcN.Mode j (upd D k ⟨s',0,dd'⟩) tag st' sm'->(tag= .ret->AcqN Wg N0 j (t++MemOp.ofEvents (N0+k) g.frame.fn g.frame.place es))->((s'<s/\cnt ⟨s',0,dd'⟩<=cnt (D k))\/(s'=s/\m'+1=m))->
    Z1y P ty Wg C n Sb Res End AnchW N0 w0 G0 ((phi n (Vc j D) tag+Ssum j D,N0+j,F),f0) (runT P (crowd gs w sl) (N0+k)) t:=
    fun Ai Fd De Ex hd h6 hs' Ef Dv J0 A4=>bookG Ai Fd De Ex hd h6 hs' Ef (fun _ ht _=>Dv.retag ht) J0 A4
   have idle:∀{g':Goroutine}{m':Nat},stepG P false g w= .go g' w #[]->Go.ConcN.WSit P ty Wg C n (fun _ _=>False) (fun _ _=>False) 0 (k+1) (val k) s m' dd g' w->m'+1=m->s≠1->
    Z1y P ty Wg C n Sb Res End AnchW N0 w0 G0 ((phi n (Vc j D) tag+Ssum j D,N0+j,F),f0) (runT P (crowd gs w sl) (N0+k)) t:=by
    intro g' m' Ai hs' hm h1;exact book Ai (.refl Wg w) Au (by simp) (by simp) Cx hs' rfl (by have:=A7.same (i:=k) 0 dd;rwa [Ac] at this) (fun e=>absurd e (A7.not_ret hk (by omega))) (.inr ⟨rfl,hm⟩)
   cases hs with
   |r0 h=>omega
   |k1 h=>
    rcases Goes.cases h with Ab|⟨m',rfl,Aa⟩
    ·obtain⟨_,g',Ai,m₂,B0⟩:=Ab w (RW.refl w)
     exact book Ai (.refl Wg w) Au (by intro e he;simp at he;subst he;exact .inl rfl) (by intro jx e he;exact .inl (by have:=Array.mem_of_getElem? he;simp at this;subst this;rfl)) (by omega) (.d1 B0) rfl
      (A7.counted hk (by omega) (.inr rfl) _ _) (fun e=>absurd e (nr (by omega))) (.inl ⟨by omega,by simp[cnt,Ac]⟩)
    ·obtain⟨g',w',es,Ai,⟨rfl,rfl⟩,hg'⟩:=Aa w (RW.refl w);exact idle Ai (.k1 hg') rfl (by omega)
   |d1 h=>
    rcases Goes.cases h with Ab|⟨m',rfl,Aa⟩
    ·obtain⟨_,Ah⟩:=Ab w (RW.refl w);have Ed:cnt (D k)=1:=(by simp[cnt,Ac]);have Re:1<=Vc j D:=(by have:=le_sumTo (f:=fun x=>cnt (D x)) hk;simp only[Vc];omega);have bk2:∀e∈#[rd (stA Wg),wr (stA Wg)],Bk Wg e:=(by intro e he;simp at he;rcases he with rfl|rfl<;>exact bk_cell _ _ rfl);have df2:∀jx e,(#[rd (stA Wg),wr (stA Wg)]:Array Event)[jx]? =some e->(MemAct.ofEvent e).touch? =none\/0<deafBehind 1 ((#[rd (stA Wg),wr (stA Wg)]:Array Event).extract 0 jx):=by
      intro jx e he
      match jx,he with
      |0,_=>exact .inr (by simp[deafBehind])
      |1,_=>exact .inr (by simp[deafBehind,rd])
      |jx+2,he=>simp at he
     have R9:cnt (⟨1,0,1⟩:WD)=0:=rfl
     have opq:OpenSt j D->OpenSt j (upd D k ⟨1,0,1⟩):=fun h a ha=>by
      by_cases e:a=k
      ·subst e;rw[upd_same];simp
      ·rw[upd_ne D _ e];exact h a ha
     cases A7 with
     |opn h1 h2 h3=>
      obtain⟨v,hv⟩:∃v,Vc j D+pend tag=v+1:=⟨Vc j D+pend tag - 1,by omega⟩;rw[hv] at Au;have O3:WgAt ty Wg w (((v:Nat)+1)*KK+((0:Nat):Int)) 0:=(by simpa using Au);obtain⟨g',Ai,_,hq⟩:=Ah v 0 (by omega) (by omega) O3;obtain⟨qq,hq⟩:=hq (by omega);have hv':Vc j (upd D k ⟨1,0,1⟩)+pend tag=v:=(by have:=Vc_upd D (⟨1,0,1⟩:WD) hk;omega);refine book Ai (aside_setCell w (stA Wg) _) (Au.setSt _) bk2 df2 (by omega) (.quit hq) rfl ?_ (fun e=>absurd e (nr (by omega))) (.inl ⟨by omega,by simp[cnt]⟩);have e:((v:Nat):Int)*KK+((0:Nat):Int)=((Vc j (upd D k ⟨1,0,1⟩)+pend tag:Nat):Int)*KK:=(by rw[hv'];simp);rw[e];exact .opn h1 (opq h2) (fun vs ev=>by have:=h3 vs ev;omega)
     |reg h1 h2 h3=>
      obtain⟨v,hv⟩:∃v,Vc j D=v+1:=⟨Vc j D - 1,by omega⟩;rw[hv] at Au;have hp:pend tag=0:=(by cases tag<;>first|rfl|exact h1.elim);have O3:WgAt ty Wg w (((v:Nat)+1)*KK+((1:Nat):Int)) 0:=(by simpa using Au);obtain⟨g',Ai,hl,hq⟩:=Ah v 1 (by omega) (by omega) O3;by_cases Rl:v=0
      ·subst Rl;obtain⟨m₂,B0⟩:=hl ⟨rfl,rfl⟩;refine book Ai (aside_setCell w (stA Wg) _) (Au.setSt _) bk2 df2 (by omega) (.d2 B0) rfl ?_ (fun e=>absurd e (nr (by omega))) (.inl ⟨by omega,by simp[cnt]⟩)
       have Ey:∀a,a<j->a≠k->(D a).stage=1:=fun a ha e=>by
        have c0:=others_uncounted hk hv Ed a ha e;have:=h2 a ha;simp only[cnt] at c0;split at c0<;>omega
       have:=Go.ConcN.Mode.last (j:=j) (D:=upd D k ⟨4,0,1⟩) (tag:=tag) k h1 hk (by rw[upd_same];simp) (fun a ha e=>by rw[upd_ne D _ e];exact Ey a ha e);rw[upd_same] at this;simpa using this
      ·obtain⟨qq,hq⟩:=hq (by omega);have hv':Vc j (upd D k ⟨1,0,1⟩)=v:=(by have:=Vc_upd D (⟨1,0,1⟩:WD) hk;omega);refine book Ai (aside_setCell w (stA Wg) _) (Au.setSt _) bk2 df2 (by omega) (.quit hq) rfl ?_ (fun e=>absurd e (nr (by omega))) (.inl ⟨by omega,by simp[cnt]⟩);have e:((v:Nat):Int)*KK+((1:Nat):Int)=((Vc j (upd D k ⟨1,0,1⟩):Nat):Int)*KK+1:=(by rw[hv'];simp);rw[e];exact .reg h1 (opq h2) (by omega)
     |last L _ h2 h3 h4=>
      by_cases e:k=L
      ·subst e;omega
      ·have:=h4 k hk e;omega
     |sema h2=>have:=h2 k hk;omega
     |fin _ h2=>have:=h2 k hk;omega
    ·obtain⟨g',w',es,Ai,⟨rfl,rfl⟩,hg'⟩:=Aa w (RW.refl w);exact idle Ai (.d1 hg') rfl (by omega)
   |d2 h=>
    rcases Goes.cases h with Ab|⟨m',rfl,Aa⟩
    ·obtain⟨_,hx⟩:=Ab w (RW.refl w);obtain⟨Rm,Ey,rfl,rfl⟩:=A7.isLast hk (by omega);simp only[Ac] at Au;obtain⟨g',Ai,m₂,B0⟩:=hx (by simpa using Au);refine book Ai (.refl Wg w) Au (by intro e he;simp at he;subst he;exact bk_cell _ _ rfl) (by intro jx e he;match jx,he with|0,_=>exact .inr (by simp[deafBehind])|jx+1,he=>simp at he) (by omega) (.d3 B0) rfl ?_ (fun e=>absurd e (nr (by omega))) (.inl ⟨by omega,by simp[cnt]⟩);have:=Go.ConcN.Mode.last (j:=j) (D:=upd D k ⟨3,0,1⟩) (tag:=tag) k Rm hk (by rw[upd_same];simp) (fun a ha e=>by rw[upd_ne D _ e];exact Ey a ha e);rw[upd_same] at this;simpa using this
    ·obtain⟨g',w',es,Ai,⟨rfl,rfl⟩,hg'⟩:=Aa w (RW.refl w);exact idle Ai (.d2 hg') rfl (by omega)
   |d3 h=>
    rcases Goes.cases h with Ab|⟨m',rfl,Aa⟩
    ·obtain⟨_,hx⟩:=Ab w (RW.refl w);obtain⟨Rm,Ey,rfl,rfl⟩:=A7.isLast hk (by omega);simp only[Ac] at Au;obtain⟨g',Ai,m₂,B0⟩:=hx (by simpa using Au);refine book Ai (aside_setCell w (stA Wg) _) (Au.setSt 0) (by intro e he;simp at he;subst he;exact bk_cell _ _ rfl) (by intro jx e he;match jx,he with|0,_=>exact .inr (by simp[deafBehind])|jx+1,he=>simp at he) (by omega) (.d4 B0) rfl ?_ (fun e=>absurd e (nr (by omega))) (.inl ⟨by omega,by simp[cnt]⟩);have:=Go.ConcN.Mode.last (j:=j) (D:=upd D k ⟨2,0,1⟩) (tag:=tag) k Rm hk (by rw[upd_same];simp) (fun a ha e=>by rw[upd_ne D _ e];exact Ey a ha e);rw[upd_same] at this;simpa using this
    ·obtain⟨g',w',es,Ai,⟨rfl,rfl⟩,hg'⟩:=Aa w (RW.refl w);exact idle Ai (.d3 hg') rfl (by omega)
   |d4 h=>
    rcases Goes.cases h with Ab|⟨m',rfl,Aa⟩
    ·obtain⟨_,Rn,hx⟩:=Ab w (RW.refl w);obtain⟨Rm,Ey,rfl,rfl⟩:=A7.isLast hk (by omega);simp only[Ac] at Au;obtain⟨g',Ai,qq,hq⟩:=hx (by simpa using Au);have Fp:g'.status= .running:=by
      cases qq with
      |zero=>exact absurd hq.2 (by decide)
      |succ qq=>exact hq.elim (fun x=>absurd x.2 (by decide)) (fun x=>x.1)
     refine bookG Ai (aside_setCell w (smA Wg) _) (Au.setSm 1) (es:=semEvents (smA Wg)) Go.ConcN.bk_sem ?_ (by omega) (.quit hq) (by simp[deafBehind,semEvents]) ?_ (fun e=>absurd e (nr (by omega))) (.inl ⟨by omega,by simp[cnt]⟩)
     ·intro jx e he
      match jx,he with
      |0,he=>simp[semEvents] at he;subst he;exact .inl rfl
      |1,_=>exact .inr (by simp[deafBehind,semEvents])
      |2,_=>exact .inr (by simp[deafBehind,semEvents])
      |3,he=>simp[semEvents] at he;subst he;exact .inl rfl
      |jx+4,he=>simp[semEvents] at he
     ·intro tag' ht hw;have hnb:=hw Rn Fp;have e3:tag'= .w3:=by
       rcases ht with rfl|⟨_,rfl⟩
       ·cases tag'<;>first|rfl|exact Rm.elim|exact absurd rfl hnb
       ·rfl
      subst e3;simp only[if_true]
      exact .sema fun a ha=>by
       by_cases e:a=k
       ·subst e;rw[upd_same]
       ·rw[upd_ne D _ e];exact Ey a ha e
    ·obtain⟨g',w',es,Ai,⟨rfl,rfl⟩,hg'⟩:=Aa w (RW.refl w);exact idle Ai (.d4 hg') rfl (by omega)
   |quit h=>
    cases m with
    |zero=>rw[h.1] at Af;cases Af
    |succ qq=>
     rcases h with⟨hf,_⟩|⟨_,g',es,M5,Aa,hq⟩
     ·rw[hf] at Af;cases Af
     ·have Ex:∀e∈es,Bk Wg e:=fun e he=>bk_of_mute (M5 e he)
      have Di:∀jx e,es[jx]? =some e->(MemAct.ofEvent e).touch? =none\/0<deafBehind dd (es.extract 0 jx):=fun jx e he=> .inl (touch_mute (M5 e (Array.mem_of_getElem? he)))
      refine book (Aa w) (.refl Wg w) Au Ex Di (by omega) (.quit hq) rfl (by have:=A7.same (i:=k) 0 (deafBehind dd es);rwa [Ac] at this) (fun e=>(C3 e).app fun k' r hk' hr=> ?_) (.inr ⟨rfl,rfl⟩);by_cases e':k'=k
      ·subst e';exact hr.app (Go.ConcN.RelBy.book hr.by_ O1 _ _ Ex Di) (fun op A1 _=>Z4b Ex op A1)
      ·exact hr.app (hr.by_.appOther g_of_ofEvents (by omega)) (fun op A1 hg=>by have:=g_of_ofEvents op A1;omega)
end
end Go.Nk
namespace Go.Nk
set_option maxHeartbeats 3200000
open Go Go.Conc
open Go.ConcN (ShN WgLive PayAt Has CTag RW upd upd_same upd_ne WD RelBy Vc Ssum cnt phi isOpen isW3 isFin OpenSt AllQuit pend sumTo sumTo_upd sumTo_upd_out Vc_upd Vc_le le_sumTo bk_cell deafBehind_idle norel_of_Bk allQuit_of bk_dis bk_en bk_rd bk_rw bk_sem)
open Go.ConcR (KK WgAt stA smA rd wr mk Payload DC0 g_of_ofEvents Bk ofEvent_loc_mark ofEvent_cell ofEvent_mk)
variable [Payload]
section
variable {P:Program} {ty:TypeId} {Wg C n:Nat} {Sb:Nat->Prop} {Res:Nat->(Nat->Prop)->Value->World->Prop} {End AnchW:(Nat->Prop)->Goroutine->World->Prop} {N0:Nat} {w0:World} {G0:Nat->Prop}
 {gs:Array Goroutine} {w w':World} {sl:Option (Nat×Nat)} {j:Nat} {D:Nat->WD} {O Rk:Nat->Nat->Prop} {val:Nat->Value} {F:Nat->Tr} {q:Nat->Nat} {tag tag':CTag} {Giv o:Nat->Prop} {f0 f':Tr×Nat} {d0:Nat} {a a':Goroutine} {t:Trace} {st sm st' sm':Int} {es:Array Event}
theorem Z4W(hR:ResOk Res)(hN:0<N0)(ha:gs[0]? =some a)(A6:ComN P ty Wg C n Sb Res N0 j gs w t D O Rk val F q Giv o d0)(Ai:stepG P true a w= .go a' w' es)(Az:w.heap.size<=w'.heap.size)
 (Ix:∀k,k<j->RWo ty Wg C n k (Rk k) (O k) w w')(B5:∀op∈MemOp.ofEvents 0 a.frame.fn a.frame.place es,ZdS (ShN Wg) (Zu Sb) (Z5P C O) (RdL Sb Rk) j op)(C1:∀op∈MemOp.ofEvents 0 a.frame.fn a.frame.place es,op.act.low w'.heap.size)(Ep:∀e∈es,e.loc≠.mark (.release (stA Wg)))(Du:PayAt C n w')
 (D4:CS P ty Wg C n Sb Res End AnchW tag' j Giv (grow o w w') f' (deafBehind d0 es) a' w')(Au:WgAt ty Wg w' st' sm')(A7:Go.ConcN.Mode j D tag' st' sm')(C3:tag'= .ret->AcqN Wg N0 j (t++MemOp.ofEvents 0 a.frame.fn a.frame.place es))(A5:BaseN w0 G0 w' Giv)
 (A4:phi n (Vc j D) tag'<phi n (Vc j D) tag\/(phi n (Vc j D) tag'=phi n (Vc j D) tag/\ZdJ f' f0)):
 Z1y P ty Wg C n Sb Res End AnchW N0 w0 G0 ((phi n (Vc j D) tag+Ssum j D,N0+j,F),f0) (runT P (crowd gs w sl) 0) t:=by
 have Af:=runT_crowd_go (P:=P) (sl:=sl) (i:=0) ha (by simpa using Ai);refine⟨_,_,((phi n (Vc j D) tag'+Ssum j D,N0+j,F),f'),Af,?_,_,w',sl,j,D,O,Rk,val,F,q,tag',Giv,grow o w w',f',deafBehind d0 es,a',st',sm',rfl,Go.ConcN.get_map_set_same _ _ _ (by rw[A6.size];omega),D4,A6.step0 hR hN Az Ix B5 C1 Ep Du,Au,A7,C3,A5,rfl⟩;rcases A4 with h|⟨h1,h2⟩
 ·exact .inl (.inl (by show _+_<_+_;omega))
 ·rw[h1];exact .inr ⟨rfl,h2⟩
theorem Zdh(hg:GeoN Wg C Sb w j O Rk Giv o){fn:FuncId}{pos:String}(h:∀e∈es,EvMo Wg Sb Giv (grow o w w') e):∀op∈MemOp.ofEvents 0 fn pos es,ZdS (ShN Wg) (Zu Sb) (Z5P C O) (RdL Sb Rk) j op:=by
 intro op A1;obtain⟨e,he,rfl⟩:=Go.Conc.mem_ofEvents A1;refine⟨rfl,fun x hx=> ?_⟩;rcases(h e he).1 x hx with h1|⟨h1,h2,h3⟩
 ·exact .inl h1
 ·have hb:∀{S:Nat->Prop},LB S x.loc->∃b,S b/\(o b\/w.heap.size<=b):=fun hs=>by
   obtain⟨b,B6,Ao⟩:=Z4V hs h1;exact⟨b,B6,Ao.imp id And.left⟩
  refine .inr ⟨fun hs=> ?_,h2,fun k hk ho=> ?_,fun hw k hk hr=>h3 hw (Zcp hr.1 (hg.rdo k hk))⟩
  ·obtain⟨ad,e1,e2⟩:=hs;obtain⟨b,B6,Ao⟩:=hb (S:=fun b=>b=Wg) (.inl ⟨ad,e1,e2⟩);subst B6;rcases Ao with Ao|Ao
   ·exact(hg.mo _ Ao).2.1 rfl
   ·have:=hg.hWg;omega
  ·rcases ho with ho|ho
   ·obtain⟨b,B6,Ao⟩:=hb ho;rcases Ao with Ao|Ao
    ·exact(hg.sep k hk b B6).2.2.2 Ao
    ·have:=(hg.sep k hk b B6).1;omega
   ·obtain⟨b,B6,Ao⟩:=hb (S:=fun b=>b=C) (.inl ⟨_,ho,rfl⟩);subst B6;rcases Ao with Ao|Ao
    ·exact(hg.mo _ Ao).2.2 rfl
    ·have:=hg.hC;omega
theorem Z8q{fn:FuncId}{pos:String}(h:∀e∈es,Bk Wg e):∀op∈MemOp.ofEvents 0 fn pos es,ZdS (ShN Wg) (Zu Sb) (Z5P C O) (RdL Sb Rk) j op:=by
 intro op A1;obtain⟨e,he,rfl⟩:=Go.Conc.mem_ofEvents A1;refine⟨rfl,fun x hx=> ?_⟩;rcases h e he with h1|h1|⟨ad,wr,rfl,Lq⟩
 ·simp only[ofEvent_loc_mark h1] at hx;cases hx
 ·simp only[ofEvent_loc_mark h1] at hx;cases hx
 ·simp only[ofEvent_cell,MemAct.touch?,Option.some.injEq] at hx;subst hx;exact .inl ⟨⟨ad,rfl,Lq⟩,by simp⟩
theorem Z2N(hR:ResOk Res)(hN:0<N0)(ha:gs[0]? =some a)(A6:ComN P ty Wg C n Sb Res N0 j gs w t D O Rk val F q Giv o d0)(Au:WgAt ty Wg w st sm)(A7:Go.ConcN.Mode j D tag st sm)(C3:tag= .ret->AcqN Wg N0 j t)(A5:BaseN w0 G0 w Giv)
 (Ai:stepG P true a w= .go a' w' es)(hD:DMo Wg Sb Giv o w w' es)(D4:CS P ty Wg C n Sb Res End AnchW tag j Giv (grow o w w') f' d0 a' w')(hf:ZdJ f' f0):
 Z1y P ty Wg C n Sb Res End AnchW N0 w0 G0 ((phi n (Vc j D) tag+Ssum j D,N0+j,F),f0) (runT P (crowd gs w sl) 0) t:=by
 have X2:deafBehind d0 es=d0:=deafBehind_idle (fun e he=>⟨(hD.evs e he).1.2.1,(hD.evs e he).1.2.2.1⟩) d0;have hg:=A6.geo
 exact Z4W hR hN ha A6 Ai hD.size (fun k hk=>RWo.of_main hg hk hD) (Zdh hg fun e he=>(hD.evs e he).1) (fun op A1=>by obtain⟨e,he,rfl⟩:=Go.Conc.mem_ofEvents A1;exact(hD.evs e he).2) (fun e he=>(hD.evs e he).1.2.2.2)
  (Z0s A6.pay (hD.stay C hg.hC (.inl fun ho=>(hg.mo _ ho).2.2 rfl))) (by rw[X2];exact D4) (Au.of_block (hD.stay Wg hg.hWg (.inl fun ho=>(hg.mo _ ho).2.1 rfl))) A7
  (fun e=>(C3 e).app fun k r hk hr=>hr.app (hr.by_.appOther g_of_ofEvents (by omega)) (fun op A1 hg=>by have:=g_of_ofEvents op A1;omega)) (A5.step (fun b hb=>hD.stay b (hg.mo b (hg.giv b hb)).1 (.inr hb)) hD.tape hD.os hD.output hD.size (fun _ h=>h)) (.inr ⟨rfl,hf⟩)
theorem Z2O(hR:ResOk Res)(hN:0<N0)(ha:gs[0]? =some a)(A6:ComN P ty Wg C n Sb Res N0 j gs w t D O Rk val F q Giv o d0)(A5:BaseN w0 G0 w Giv)
 (Ai:stepG P true a w= .go a' w' es)(Fd:Aside Wg w w')(De:WgAt ty Wg w' st' sm')(Ex:∀e∈es,Bk Wg e)(D4:CS P ty Wg C n Sb Res End AnchW tag' j Giv o f' (deafBehind d0 es) a' w')
 (Dv:Go.ConcN.Mode j D tag' st' sm')(A9:tag'≠.ret)(A4:phi n (Vc j D) tag'<phi n (Vc j D) tag\/(phi n (Vc j D) tag'=phi n (Vc j D) tag/\ZdJ f' f0)):
 Z1y P ty Wg C n Sb Res End AnchW N0 w0 G0 ((phi n (Vc j D) tag+Ssum j D,N0+j,F),f0) (runT P (crowd gs w sl) 0) t:=by
 have hg:=A6.geo;have hW:=hg.hWg
 exact Z4W hR hN ha A6 Ai (Nat.le_of_eq Fd.size.symm) (fun k hk=>RWo.of_wg hg hk Fd ⟨_,_,De⟩) (Z8q Ex) (Z5Q (by rw[Fd.size];exact hW) Ex) (norel_of_Bk Ex) (Z0s A6.pay (Fd.block C hg.hCW)) (by rw[Z0a Fd.size];exact D4) De Dv (fun e=>absurd e A9)
  (A5.step (fun b hb=>Fd.block b (hg.mo b (hg.giv b hb)).2.1) Fd.tape Fd.os Fd.output (Nat.le_of_eq Fd.size.symm) (fun _ h=>h)) A4
theorem w1M(hR:ResOk Res)(hN:0<N0)(hn:n<2147483648)(ha:gs[0]? =some a)(A6:ComN P ty Wg C n Sb Res N0 n gs w t D O Rk val F q Giv o 1)(Au:WgAt ty Wg w st sm)(A7:Go.ConcN.Mode n D .w1 st sm)(A5:BaseN w0 G0 w Giv){f:Tr}
 (h:GoT P true (RMo ty Wg C n) (DMo Wg Sb Giv) (MW1 P ty Wg C n Sb End AnchW Giv) f o a w):
 Z1y P ty Wg C n Sb Res End AnchW N0 w0 G0 ((phi n (Vc n D) .w1+Ssum n D,N0+n,F),(f,0)) (runT P (crowd gs w sl) 0) t:=by
 rcases GoT.cases (RMo.refl _ w) h with Ab|⟨r',a',w',es,A4,Ai,hD,hg'⟩
 ·obtain⟨_,Ah⟩:=Ab w (.refl _ w);obtain⟨ho,rfl,rfl,_⟩:=A7.open_inv trivial;have hV:=Vc_le n D;obtain⟨a',Ai,h0,A9⟩:=Ah (Vc n D) (by omega) (by simpa[pend] using Au);by_cases hv:Vc n D=0
  ·obtain⟨r2,hk⟩:=h0 hv;refine Z2O hR hN ha A6 A5 Ai (.refl Wg w) Au bk_rd (tag':= .ke) (.ke hk) ?_ (by simp) (.inl (by simp only[phi];omega));have e:((Vc n D+pend .w1:Nat):Int)*KK=0:=by rw[hv];simp[pend]
   rw[e];exact .fin trivial (allQuit_of ho hv)
  ·obtain⟨r2,hk⟩:=A9 hv;exact Z2O hR hN ha A6 A5 Ai (.refl Wg w) Au bk_rd (tag':= .w2 (Vc n D)) (.w2 hk) (A7.reopen trivial trivial rfl (fun vs e=>by cases e;omega)) (by simp) (.inl (by simp only[phi];omega))
 ·exact Z2N hR hN ha A6 Au A7 (by simp) A5 Ai hD (.w1 hg') (.inl A4)
theorem CS.bound(h:CS P ty Wg C n Sb Res End AnchW tag j Giv o f0 d0 a w):j+pend tag<=n:=by
 cases h<;>simp only[pend]<;>(try simp)<;>omega
def Z5R(P:Program)(Wg C n:Nat)(Sb:Nat->Prop)(Res:Nat->(Nat->Prop)->Value->World->Prop)(End:(Nat->Prop)->Goroutine->World->Prop)(w0:World)(G0:Nat->Prop)(m:Machine)(t:Trace):Prop:=
 ∃(gs:Array Goroutine)(w:World)(sl:Option (Nat×Nat))(a:Goroutine)(o:Nat->Prop)(O:Nat->Nat->Prop)(q:Nat->Nat),m=crowd gs w sl/\gs[0]? =some a/\End o a w/\(∀b,G0 b->o b)/\(∀k,k<n->∃v,Has C k v w/\Res k (O k) v w)/\(∀k,k<n->∀b,O k b->b<w.heap.size/\b≠Wg/\b≠C/\¬o b)/\
  (∀k k',k<n->k'<n->k≠k'->∀b,O k b->¬O k' b)/\PayAt C n w/\BaseN w0 G0 w (fun _=>True)/\Leavers P t gs q/\Past (Zu fun b=>Sb b\/b=Wg) w.heap.size t/\∀op∈t,op.g<gs.size
theorem ZbB(hR:ResOk Res)(hN:0<N0)(hn:n<2147483648)(O4:∀Giv o g w,AnchW o g w->∃r,GoT P true (RMo ty Wg C n) (DMo Wg Sb Giv) (MW1 P ty Wg C n Sb End AnchW Giv) r o g w)
 (ha:gs[0]? =some a)(Ad:CS P ty Wg C n Sb Res End AnchW tag j Giv o f0 d0 a w)(A6:ComN P ty Wg C n Sb Res N0 j gs w t D O Rk val F q Giv o d0)(A5:BaseN w0 G0 w Giv)(Au:WgAt ty Wg w st sm)(A7:Go.ConcN.Mode j D tag st sm)(C3:tag= .ret->AcqN Wg N0 j t)(Af:a.status= .running)
 (Ku:∀f,tag= .ret->GoT P true (RMo ty Wg C n) (DMo Wg Sb Giv) End f o a w->¬∀w₁,RMo ty Wg C n o w w₁->End o a w₁):
 Z1y P ty Wg C n Sb Res End AnchW N0 w0 G0 ((phi n (Vc j D) tag+Ssum j D,N0+j,F),f0) (runT P (crowd gs w sl) 0) t:=by
 have hVj:=Vc_le j D;cases Ad with
 |skd hr h=>
  rcases GoT.cases (RMo.refl _ w) h with Ab|⟨r',a',w',es,A4,Ai,hD,hg'⟩
  ·obtain⟨_,a',Ai,r2,hk⟩:=Ab w (.refl _ w);exact Z2O hR hN ha A6 A5 Ai (.refl Wg w) Au bk_dis (.sa1 hr hk) (A7.reopen trivial trivial rfl (by simp)) (by simp) (.inl (by simp only[phi];omega))
  ·exact Z2N hR hN ha A6 Au A7 (by simp) A5 Ai hD (.skd hr hg') (.inl A4)
 |sa1 hr h=>
  rename_i r f;rcases GoT.cases (RMo.refl _ w) h with Ab|⟨r',a',w',es,A4,Ai,hD,hg'⟩
  ·obtain⟨_,Ah⟩:=Ab w (.refl _ w);obtain⟨ho,rfl,rfl,_⟩:=A7.open_inv trivial;obtain⟨a',Ai,r2,hk⟩:=Ah (Vc (n - (r+1)) D) (by omega) (by simpa[pend] using Au);refine Z2O hR hN ha A6 A5 Ai (aside_setCell w (stA Wg) _) (Au.setSt _) bk_rw (.ske hr hk) ?_ (by simp) (.inl (by simp only[phi];omega));have e:(((Vc (n - (r+1)) D:Nat):Int)+1)*KK=((Vc (n - (r+1)) D+pend (.sp r 3):Nat):Int)*KK:=by simp[pend]
   rw[e];exact .opn trivial ho (by simp)
  ·exact Z2N hR hN ha A6 Au A7 (by simp) A5 Ai hD (.sa1 hr hg') (.inl A4)
 |ske hr h=>
  rcases GoT.cases (RMo.refl _ w) h with Ab|⟨r',a',w',es,A4,Ai,hD,hg'⟩
  ·obtain⟨_,a',Ai,r2,hk⟩:=Ab w (.refl _ w);exact Z2O hR hN ha A6 A5 Ai (.refl Wg w) Au bk_en (.sgo hr hk) (A7.reopen trivial trivial rfl (by simp)) (by simp) (.inl (by simp only[phi];omega))
  ·exact Z2N hR hN ha A6 Au A7 (by simp) A5 Ai hD (.ske hr hg') (.inl A4)
 |sgo hr h=>
  rename_i r f;rcases GoT.cases (RMo.refl _ w) h with Ab|⟨r',a',w',es,A4,Ai,hD,hg'⟩
  ·obtain⟨_,a',child,H7,_,X6,M6⟩:=Ab w (.refl _ w);obtain⟨r2,M4⟩:=X6 A6.pay;obtain⟨ho,rfl,rfl,_⟩:=A7.open_inv trivial;have Fp:=runT_crowd_spawn (P:=P) (sl:=sl) (i:=0) ha (by simpa using H7);rw[A6.size] at Fp;have D7:=A6.spawn hN (a':=a') (x:={g:=0,fn:=a.frame.fn,pos:=a.frame.place,act:= .go (N0+(n - (r+1)))}) (y:={g:=N0+(n - (r+1)),fn:=child.frame.fn,pos:=a.frame.place,act:= .start}) ⟨rfl,rfl⟩ ⟨rfl,rfl⟩ M4;have eV:Vc (n - (r+1)+1) (upd D (n - (r+1)) ⟨7,0,0⟩)=Vc (n - (r+1)) D+1:=by
    simp only[Vc,sumTo,upd_same];rw[sumTo_upd_out D _ cnt (Nat.le_refl _)];rfl
   have eS:Ssum (n - (r+1)+1) (upd D (n - (r+1)) ⟨7,0,0⟩)=Ssum (n - (r+1)) D+7:=by
    simp only[Ssum,sumTo,upd_same];rw[sumTo_upd_out D _ WD.stage (Nat.le_refl _)]
   have ho':OpenSt (n - (r+1)+1) (upd D (n - (r+1)) ⟨7,0,0⟩):=fun i hi=>by
    by_cases e:i=n - (r+1)
    ·subst e;rw[upd_same];simp
    ·rw[upd_ne D _ e];exact ho i (by omega)
   have ha':((gs.setIfInBounds 0 a').push child)[0]? =some a':=by
    have h0:0<gs.size:=(by rw[A6.size];omega);rw[Array.getElem?_push,if_neg (by simp;omega),YM h0]
   have hb':BaseN w0 G0 w o:=A5.step (fun _ _=>rfl) rfl rfl rfl (Nat.le_refl _) A6.geo.giv;have ej:n - (r+1)+1=n - r:=by omega
   rw[ej] at D7 eV eS ho';have est:∀tag',pend tag'=0->((Vc (n - (r+1)) D+pend (.sp r 2):Nat):Int)*KK=((Vc (n - r) (upd D (n - (r+1)) ⟨7,0,0⟩)+pend tag':Nat):Int)*KK:=fun tag' hp=>by rw[eV,hp];simp[pend]
   cases r with
   |zero=>
    obtain⟨r3,hk⟩:=M6;simp only[Nat.sub_zero] at D7 eV eS ho' est
    refine⟨_,_,((phi n (Vc n (upd D (n - (0+1)) ⟨7,0,0⟩)) .kd+Ssum n (upd D (n - (0+1)) ⟨7,0,0⟩),N0+n,upd F (N0+(n - (0+1))) r2),(r3,0)),Fp,.inl (.inl (by show _+_<_+_;simp only[phi];omega)),
     _,w,sl,n,_,_,_,val,_,q,.kd,o,o,(r3,0),0,a',_,_,rfl,ha',.kd hk,D7,Au,?_,by simp,hb',rfl⟩
    rw[est .kd rfl];exact .opn trivial ho' (by simp)
   |succ r'=>
    obtain⟨r3,hk⟩:=M6
    refine⟨_,_,((phi n (Vc (n - (r'+1)) (upd D (n - (r'+1+1)) ⟨7,0,0⟩)) (.sp r' 5)+Ssum (n - (r'+1)) (upd D (n - (r'+1+1)) ⟨7,0,0⟩),N0+(n - (r'+1)),upd F (N0+(n - (r'+1+1))) r2),(r3,0)),Fp,.inl (.inl (by show _+_<_+_;simp only[phi];omega)),
     _,w,sl,n - (r'+1),_,_,_,val,_,q,.sp r' 5,o,o,(r3,0),0,a',_,_,rfl,ha',.skd (by omega) hk,D7,Au,?_,by simp,hb',rfl⟩
    rw[est (.sp r' 5) rfl];exact .opn trivial ho' (by simp)
  ·exact Z2N hR hN ha A6 Au A7 (by simp) A5 Ai hD (.sgo hr hg') (.inl A4)
 |kd h=>
  rcases GoT.cases (RMo.refl _ w) h with Ab|⟨r',a',w',es,A4,Ai,hD,hg'⟩
  ·obtain⟨_,a',Ai,r2,hk⟩:=Ab w (.refl _ w);exact Z2O hR hN ha A6 A5 Ai (.refl Wg w) Au bk_dis (.anch hk) (A7.reopen trivial trivial rfl (by simp)) (by simp) (.inl (by simp only[phi];omega))
  ·exact Z2N hR hN ha A6 Au A7 (by simp) A5 Ai hD (.kd hg') (.inl A4)
 |anch h=>
  rcases GoT.cases (RMo.refl _ w) h with Ab|⟨r',a',w',es,A4,Ai,hD,hg'⟩
  ·obtain⟨r2,hk⟩:=O4 Giv o a w (Ab w (.refl _ w));obtain⟨m₁,ops,μ',h1,h2,h3⟩:=w1M (sl:=sl) hR hN hn ha A6 Au (A7.reopen trivial trivial rfl (by simp)) A5 hk;refine⟨m₁,ops,μ',h1,.inl ?_,h3⟩;rcases h2 with(h2|⟨h2,_⟩)|⟨h2,_⟩
   ·refine .inl ?_;simp only[phi] at h2⊢;show _<_+_;have:μ'.1.1<8*Vc n D+5+Ssum n D:=h2;omega
   ·refine .inl ?_;simp only[phi] at h2⊢;show _<_+_;have:μ'.1.1=8*Vc n D+5+Ssum n D:=h2;omega
   ·refine .inl ?_;simp only[phi] at h2⊢;show _<_+_;rw[h2];show 8*Vc n D+5+Ssum n D<_;omega
  ·exact Z2N hR hN ha A6 Au A7 (by simp) A5 Ai hD (.anch hg') (.inl A4)
 |w1 h=>exact w1M hR hN hn ha A6 Au A7 A5 h
 |w2 h=>
  rename_i vs f;rcases GoT.cases (RMo.refl _ w) h with Ab|⟨r',a',w',es,A4,Ai,hD,hg'⟩
  ·obtain⟨_,Ah⟩:=Ab w (.refl _ w);obtain⟨ho,rfl,rfl,E4⟩:=A7.open_inv trivial;obtain⟨Bc,h1⟩:=E4 vs rfl;obtain⟨X7,Ro⟩:=Ah (Vc n D) (by omega) (by simpa[pend] using Au);by_cases e:Vc n D=vs
   ·obtain⟨a',Ai,r2,hk⟩:=X7 e;exact Z2O hR hN ha A6 A5 Ai (aside_setCell w (stA Wg) _) (Au.setSt _) bk_rw (.w3 hk) (.reg trivial ho (by omega)) (by simp) (.inl (by simp only[phi];omega))
   ·obtain⟨a',Ai,r2,hk⟩:=Ro e;exact Z2O hR hN ha A6 A5 Ai (.refl Wg w) Au bk_rd (.anch hk) (A7.reopen trivial trivial rfl (by simp)) (by simp) (.inl (by simp only[phi];omega))
  ·exact Z2N hR hN ha A6 Au A7 (by simp) A5 Ai hD (.w2 hg') (.inl A4)
 |w3 h=>
  rcases GoT.cases (RMo.refl _ w) h with Ab|⟨r',a',w',es,A4,Ai,hD,hg'⟩
  ·obtain⟨_,Qo,It,J1⟩:=Ab w (.refl _ w);cases A7 with
   |opn h1 _ _=>exact h1.elim
   |reg h1 h2 h3=>exact Z2O hR hN ha A6 A5 (It ⟨_,Au⟩) (.refl Wg w) Au (by simp) (.blk Ab) (.reg trivial h2 h3) (by simp) (.inr ⟨rfl,.inr ⟨rfl,Nat.zero_lt_one⟩⟩)
   |last L h1 h2 h3 h4=>exact Z2O hR hN ha A6 A5 (It ⟨_,Au⟩) (.refl Wg w) Au (by simp) (.blk Ab) (.last L trivial h2 h3 h4) (by simp) (.inr ⟨rfl,.inr ⟨rfl,Nat.zero_lt_one⟩⟩)
   |sema h2=>
    obtain⟨a',Ai,r2,hk⟩:=J1 Au;exact Z2O hR hN ha A6 A5 Ai (aside_setCell w (smA Wg) _) (Au.setSm 0) bk_sem (.w4 hk) (.fin trivial h2) (by simp) (.inl (by simp only[phi];omega))
   |fin h1 _=>exact h1.elim
  ·exact Z2N hR hN ha A6 Au A7 (by simp) A5 Ai hD (.w3 hg') (.inl A4)
 |blk h=>simp at Af
 |w4 h=>
  rcases GoT.cases (RMo.refl _ w) h with Ab|⟨r',a',w',es,A4,Ai,hD,hg'⟩
  ·obtain⟨_,hx⟩:=Ab w (.refl _ w);obtain⟨hq,rfl,rfl⟩:=A7.fin_inv trivial;obtain⟨a',Ai,r2,hk⟩:=hx Au;exact Z2O hR hN ha A6 A5 Ai (.refl Wg w) Au bk_rd (.ke hk) (.fin trivial hq) (by simp) (.inl (by simp only[phi];omega))
  ·exact Z2N hR hN ha A6 Au A7 (by simp) A5 Ai hD (.w4 hg') (.inl A4)
 |ke h=>
  rcases GoT.cases (RMo.refl _ w) h with Ab|⟨r',a',w',es,A4,Ai,hD,hg'⟩
  ·obtain⟨_,a',Ai,r2,hk⟩:=Ab w (.refl _ w);obtain⟨hq,rfl,rfl⟩:=A7.fin_inv trivial;exact Z2O hR hN ha A6 A5 Ai (.refl Wg w) Au bk_en (.acq hk) (.fin trivial hq) (by simp) (.inl (by simp only[phi];omega))
  ·exact Z2N hR hN ha A6 Au A7 (by simp) A5 Ai hD (.ke hg') (.inl A4)
 |acq h=>
  rcases GoT.cases (RMo.refl _ w) h with Ab|⟨r',a',w',es,A4,Ai,hD,hg'⟩
  ·obtain⟨_,a',Ai,r2,hk⟩:=Ab w (.refl _ w);obtain⟨hq,rfl,rfl⟩:=A7.fin_inv trivial;have hW:=A6.geo.hWg;have M7:grow o w w=o:=Z0a rfl;refine Z4W (tag':= .ret) hR hN ha A6 Ai (Nat.le_refl _) (fun k _=>RWo.refl _ w) (fun op A1=> ?_) (fun op A1=> ?_) (by intro e he;simp at he;subst he;simp[mk]) A6.pay (by rw[M7];exact .ret hk) Au (.fin trivial hq) (fun _=> ?_) A5 (.inl (by simp only[phi];omega))
   ·obtain⟨e,he,rfl⟩:=Go.Conc.mem_ofEvents A1;simp at he;subst he;exact⟨rfl,fun x hx=>by cases hx⟩
   ·obtain⟨e,he,rfl⟩:=Go.Conc.mem_ofEvents A1;simp at he;subst he;exact hW
   have e1:MemOp.ofEvents 0 a.frame.fn a.frame.place #[mk (.acquire (stA Wg))]= #[{g:=0,fn:=a.frame.fn,pos:=a.frame.place,act:= .mark (.acquire (stA Wg))}]:=by rw[ofEvents_eq];simp[ofEvent_mk]
   have hy:(t++ #[({g:=0,fn:=a.frame.fn,pos:=a.frame.place,act:= .mark (.acquire (stA Wg))}:MemOp)])[t.size]? =some {g:=0,fn:=a.frame.fn,pos:=a.frame.place,act:= .mark (.acquire (stA Wg))}:=by simp
   refine⟨t.size,by rw[e1,act?_of hy],by rw[e1];simp[Trace.g?],by rw[e1];exact⟨0,by simp[Trace.g?],by rw[deaf_old (Nat.le_refl _)];exact A6.deaf0⟩,fun k hk'=> ?_⟩;obtain⟨r,hr⟩:=A6.rel k hk' (by rw[hq k hk'];omega);exact⟨r,hr.app (hr.by_.appOther g_of_ofEvents (by omega)) (fun op A1 hg=>by have:=g_of_ofEvents op A1;omega),lt_of_act? hr.by_.act⟩
  ·exact Z2N hR hN ha A6 Au A7 (by simp) A5 Ai hD (.acq hg') (.inl A4)
 |ret h=>
  rcases GoT.cases (RMo.refl _ w) h with Ab|⟨r',a',w',es,A4,Ai,hD,hg'⟩
  ·exact absurd Ab (Ku _ rfl h)
  ·exact Z2N hR hN ha A6 Au A7 C3 A5 Ai hD (.ret hg') (.inl A4)
end
end Go.Nk
namespace Go.Nk
open Go Go.Conc
open Go.ConcN (ShN WgLive PayAt Has CTag RW upd upd_same upd_ne WD RelBy Vc Ssum cnt phi isOpen isW3 isFin OpenSt AllQuit pend exists_counted Deaf_absent)
open Go.ConcR (KK WgAt stA smA rd wr mk Payload DC0 g_of_ofEvents Bk)
variable [Payload]
section
variable {P:Program} {ty:TypeId} {Wg C n:Nat} {Sb:Nat->Prop} {Res:Nat->(Nat->Prop)->Value->World->Prop} {End AnchW:(Nat->Prop)->Goroutine->World->Prop} {N0:Nat} {w0:World} {G0:Nat->Prop}
 {gs:Array Goroutine} {w w':World} {sl:Option (Nat×Nat)} {j:Nat} {D:Nat->WD} {O Rk:Nat->Nat->Prop} {val:Nat->Value} {F:Nat->Tr} {q:Nat->Nat} {tag tag':CTag} {Giv o:Nat->Prop} {f0 f':Tr×Nat} {d0:Nat} {a a':Goroutine} {t:Trace} {st sm st' sm':Int} {es:Array Event}
theorem ZbC(Dj:∀o g w,AnchW o g w->g.status= .running)(C6:∀o g w,End o g w->g.status= .running)(ha:gs[0]? =some a)(Ad:CS P ty Wg C n Sb Res End AnchW tag j Giv o f0 d0 a w)(A6:ComN P ty Wg C n Sb Res N0 j gs w t D O Rk val F q Giv o d0)(A7:Go.ConcN.Mode j D tag st sm):
 ∃(i:Nat)(g:Goroutine),gs[i]? =some g/\g.status= .running:=by
 rcases Ad.status Dj C6 with⟨hs,_⟩|⟨_,rfl⟩
 ·exact⟨0,a,ha,hs⟩
 ·cases A7 with
  |opn h1 _ _=>exact h1.elim
  |reg _ _ h3=>
   obtain⟨i,hi,h5⟩:=exists_counted h3;obtain⟨g,hg,hs⟩:=A6.wk i hi;exact⟨N0+i,g,hg,hs.running_of (by omega)⟩
  |last L _ h2 h3 _=>
   obtain⟨g,hg,hs⟩:=A6.wk L h2;exact⟨N0+L,g,hg,hs.running_of (by omega)⟩
  |fin h1 _=>exact h1.elim
theorem ZbD(hN:0<N0)(Dj:∀o g w,AnchW o g w->g.status= .running)(C6:∀o g w,End o g w->g.status= .running)(ha:gs[0]? =some a)(Ad:CS P ty Wg C n Sb Res End AnchW tag j Giv o f0 d0 a w)(A6:ComN P ty Wg C n Sb Res N0 j gs w t D O Rk val F q Giv o d0):∀g∈gs,awake g:=by
 intro g hg tm;obtain⟨i,hi⟩:=Array.mem_iff_getElem?.1 hg;rcases Nat.eq_zero_or_pos i with rfl|Cn
 ·rw[ha] at hi;cases hi;rcases Ad.status Dj C6 with⟨hs,_⟩|⟨hs,_⟩<;>rw[hs]<;>simp
 ·rcases Nat.lt_or_ge i N0 with A4|Fa
  ·obtain⟨x,hx,hq,_⟩:=A6.old i Cn A4;rw[hi] at hx;cases hx;rcases hq.status with h|h<;>rw[h]<;>simp
  ·obtain⟨k,rfl⟩:∃k,i=N0+k:=⟨i - N0,by omega⟩;have A4:k<j:=by have:=(YF.1 hi).1;rw[A6.size] at this;omega
   obtain⟨g',hg',hs⟩:=A6.wk k A4;rw[hi] at hg';cases hg';rcases hs.status with h|h<;>rw[h]<;>simp
theorem ZbE(hN:0<N0)(ha:gs[0]? =some a)(Eo:End o a w)(A6:ComN P ty Wg C n Sb Res N0 n gs w t D O Rk val F q Giv o 0)(A5:BaseN w0 G0 w Giv)(Ah:AllQuit n D)(C3:AcqN Wg N0 n t):
 Z5R P Wg C n Sb Res End w0 G0 (crowd gs w sl) t:=by
 have Rp:∀k,k<n->∃m g,gs[N0+k]? =some g/\QuitsD P m (Deaf t (N0+k)) g:=by
  intro k hk;obtain⟨g,hg,hs⟩:=A6.wk k hk;rw[Ah k hk] at hs;rw[A6.deafW k hk];generalize (D k).deaf=dd at hs⊢;generalize F (N0+k)=fu at hs;generalize hx:(1:Nat)=s at hs;cases hs with
  |work _=>omega
  | @late s m dd _ _ _ h6 h=>exact⟨m,g,hg,h.quits hx.symm⟩
 have J2:∀i,N0<=i/\i<N0+n->∃m,∀g,gs[i]? =some g->QuitsD P m (Deaf t i) g:=by
  intro i hi;obtain⟨k,rfl⟩:∃k,i=N0+k:=⟨i - N0,by omega⟩;obtain⟨m,g,hg,hq⟩:=Rp k (by omega);exact⟨m,fun g' hg'=>by rw[hg] at hg';cases hg';exact hq⟩
 classical
 obtain⟨qa,h1,h2,h3,h4⟩:=C3;have known:∀i k,t.g? i=some (N0+k)->k<n->∀r,RelN (ShN Wg) (stA Wg) t (N0+k) r->r<qa->i<=r->HappensBefore t i qa:=by
  intro i k hg hk r hr O0 Bc;have edge:HappensBefore t r qa:= .single (.inr ⟨.marked O0 (.inr hr.by_.act) h1 (fun k _ _=>A6.norel k),hr.by_.heard,h3⟩);rcases Nat.lt_or_ge i r with A4|Fa
  ·exact .trans (.single (.inl ⟨A4,_,hg,hr.by_.g⟩)) edge
  ·obtain rfl:i=r:=by omega
   exact edge
 have who:∀i g,t.g? i=some g->g<N0+n:=by
  intro i g hg;obtain⟨op,ho,rfl⟩:=Option.map_eq_some_iff.1 hg;exact A6.tn.gs i op ho
 refine⟨gs,w,sl,a,o,O,fun i=>if hk:N0<=i/\i<N0+n then(J2 i hk).choose else q i,rfl,ha,Eo,fun b hb=>A6.geo.giv b (A5.old b hb).1,fun k hk=> ?_,fun k hk b hb=>A6.geo.sep k hk b hb,A6.geo.sep2,A6.pay,⟨fun b hb=>⟨trivial,(A5.old b hb).2⟩,A5.tape,A5.os,A5.output,A5.size⟩,⟨fun i g hi hg=> ?_,fun i hi=> ?_⟩,⟨A6.tn.nr,fun i x hx hm=> ?_,fun i g hg A9 hc=> ?_,A6.deaf0,A6.low⟩,fun op A1=> ?_⟩
 ·obtain⟨hh,hr⟩:=A6.has k hk (by rw[Ah k hk];omega);exact⟨_,hh,hr⟩
 ·rcases Nat.lt_or_ge i N0 with A4|Fa
  ·obtain⟨x,hx,hq,_⟩:=A6.old i hi A4;rw[hg] at hx;cases hx;simp only[dif_neg (show¬(N0<=i/\i<N0+n) by omega)];exact hq
  ·have hk:N0<=i/\i<N0+n:=⟨Fa,by have:=(YF.1 hg).1;rw[A6.size] at this;exact this⟩;simp only[dif_pos hk];exact(J2 i hk).choose_spec g hg
 ·exact Deaf_absent fun x op hx e=>by have:=A6.tn.gs x op hx;rw[A6.size] at hi;omega
 ·obtain⟨op,A1,_⟩:=touch_of hx;have hg:=Z4F A1;rcases Nat.lt_or_ge op.g N0 with A4|Fa
  ·rcases A6.oldk.known i x op.g hg A4 hx hm with h|⟨⟨ad,e1,e2⟩,h⟩
   ·exact .inl h
   ·exact .inr ⟨⟨ad,e1,.inl e2⟩,h⟩
  ·have hk:op.g - N0<n:=by have:=who i op.g hg;omega
   obtain⟨r,hr,O0⟩:=h4 (op.g - N0) hk;have hg':t.g? i=some (N0+(op.g - N0)):=by rw[hg];congr 1;omega
   rcases Nat.lt_or_ge r i with A4|Bc
   ·obtain⟨⟨ad,e1,e2⟩,h⟩:=hr.late i x A4 hg' hx;exact .inr ⟨⟨ad,e1,.inr e2⟩,h⟩
   ·left
    obtain⟨z,hz,Lw⟩:=Option.map_eq_some_iff.1 h2;exact⟨qa,z,hz,Lw,.inr (known i _ hg' hk r hr O0 Bc)⟩
 ·rcases Nat.lt_or_ge g N0 with A4|Fa
  ·exact A6.oldk.over i g hg A9 A4 hc
  ·have hk:g - N0<n:=by have:=who i g hg;omega
   obtain⟨r,hr,O0⟩:=h4 (g - N0) hk;have hg':t.g? i=some (N0+(g - N0)):=by rw[hg];congr 1;omega
   rcases Nat.lt_or_ge r i with A4|Bc
   ·exact absurd hc (hr.by_.after i A4 hg')
   ·exact⟨qa,h2,known i _ hg' hk r hr O0 Bc⟩
 ·obtain⟨i,hi,rfl⟩:=Array.mem_iff_getElem.1 A1;have:=A6.tn.gs i _ (YN hi);rw[A6.size];exact this
theorem Z6H(hR:ResOk Res)(hN:0<N0)(hn:n<2147483648)(Dj:∀o g w,AnchW o g w->g.status= .running)(C6:∀o g w,End o g w->g.status= .running)
 (O4:∀Giv o g w,AnchW o g w->∃r,GoT P true (RMo ty Wg C n) (DMo Wg Sb Giv) (MW1 P ty Wg C n Sb End AnchW Giv) r o g w)(μ:Mu)(m:Machine)(t:Trace)(h:InvN P ty Wg C n Sb Res End AnchW N0 w0 G0 μ m t):
 Z5R P Wg C n Sb Res End w0 G0 m t\/Z1y P ty Wg C n Sb Res End AnchW N0 w0 G0 μ (stepT P m) t:=by
 obtain⟨gs,w,sl,j,D,O,Rk,val,F,q,tag,Giv,o,f0,d0,a,st,sm,rfl,ha,Ad,A6,Au,A7,C3,A5,rfl⟩:=h;by_cases Cr:tag= .ret/\∃f,GoT P true (RMo ty Wg C n) (DMo Wg Sb Giv) End f o a w/\∀w₁,RMo ty Wg C n o w w₁->End o a w₁
 ·left
  obtain⟨rfl,f,_,Ab⟩:=Cr;obtain⟨hq,_,_⟩:=A7.fin_inv trivial;cases Ad with
  |ret h=>exact ZbE hN ha (Ab w (.refl _ w)) A6 A5 hq (C3 rfl)
 ·right
  obtain⟨i,g,d,sl',hg,Af,Aa⟩:=crowd_pick (P:=P) (w:=w) (sl:=sl) (ZbD hN Dj C6 ha Ad A6) (ZbC Dj C6 ha Ad A6 A7);rw[Aa];have D4:=Ad.rely (RMo.at w d);have D7:=A6.at hR d;have Gh:BaseN w0 G0 (w.at d) Giv:=⟨A5.old,A5.tape,A5.os,A5.output,A5.size⟩;have De:WgAt ty Wg (w.at d) st sm:=Au;rcases Nat.eq_zero_or_pos i with rfl|Cn
  ·rw[ha] at hg;cases hg;refine ZbB hR hN hn O4 ha D4 D7 Gh De A7 C3 Af (fun f e hf Ac=>Cr ⟨e,?_⟩);subst e;cases Ad with
   | @ret f1 _ _ _ _ h=>exact⟨f1,h,fun w₁ hw=>Ac w₁ ⟨hw.own,hw.size,hw.live,hw.pay,hw.tape,hw.os,hw.output⟩⟩
  ·rcases Nat.lt_or_ge i N0 with A4|Fa
   ·exact Z8p hR hN Dj C6 ha D4 D7 Gh De A7 C3 Cn A4 hg Af
   ·obtain⟨k,rfl⟩:∃k,i=N0+k:=⟨i - N0,by omega⟩;have A4:k<j:=(by have:=(YF.1 hg).1;rw[A6.size] at this;omega);exact Z9Z hR hN Dj C6 hn Ad.bound ha D4 D7 Gh De A7 C3 A4 hg Af
theorem Z6I(hR:ResOk Res)(hN:0<N0)(hn:n<2147483648)(Dj:∀o g w,AnchW o g w->g.status= .running)(C6:∀o g w,End o g w->g.status= .running)
 (O4:∀Giv o g w,AnchW o g w->∃r,GoT P true (RMo ty Wg C n) (DMo Wg Sb Giv) (MW1 P ty Wg C n Sb End AnchW Giv) r o g w):∀(μ:Mu)(m:Machine)(t:Trace),InvN P ty Wg C n Sb Res End AnchW N0 w0 G0 μ m t->
 ∃N m' t',runNT P N m t=(.next m',t')/\Z5R P Wg C n Sb Res End w0 G0 m' t':=by
 intro μ
 induction muLt2_wf.apply μ with
 |intro μ _ ih=>
  intro m t h;rcases Z6H hR hN hn Dj C6 O4 μ m t h with hf|⟨m₁,ops,μ',hs,A4,hi⟩
  ·exact⟨0,m,t,rfl,hf⟩
  ·obtain⟨N,m',t',hr,hf⟩:=ih μ' A4 m₁ (t++ops) hi;exact⟨N+1,m',t',by simp only[runNT,hs];exact hr,hf⟩
theorem Zea(hR:ResOk Res)(hn:n<2147483648)(Dj:∀o g w,AnchW o g w->g.status= .running)(C6:∀o g w,End o g w->g.status= .running)
 (O4:∀Giv o g w,AnchW o g w->∃r,GoT P true (RMo ty Wg C n) (DMo Wg Sb Giv) (MW1 P ty Wg C n Sb End AnchW Giv) r o g w)
 {q:Nat->Nat}(ha:gs[0]? =some a)(hL:Leavers P t gs q){B:Nat}(hP:Past (Zu Sb) B t)(hB:B<=w.heap.size)(hBW:∀op∈t,∀x,op.act.touch? =some x->¬ShN Wg x.loc)(Ep:NoRelease (stA Wg) t)
 (I2:∀(i:Nat)(op:MemOp),t[i]? =some op->op.g<gs.size)(Au:WgAt ty Wg w 0 0)(Du:PayAt C n w)(Ew:GeoN Wg C Sb w 0 (fun _ _=>False) (fun _ _=>False) Giv o)(hG:∀b,G0 b->Giv b)(H7:SpawnsN P ty Wg C n Sb Res AnchW n Giv o a w)(Na:∀b,G0 b->w.heap[b]? =w0.heap[b]?)(h1:w.tape=w0.tape)(h2:w.os=w0.os)(h3:w.output=w0.output)(h4:w0.heap.size<=w.heap.size):
 ∃N m' t',runNT P N (crowd gs w sl) t=(.next m',t')/\Z5R P Wg C n Sb Res End w0 G0 m' t':=by
 have Hi:0<gs.size:=(YF.1 ha).1;have B1:OldK gs.size (Zu Sb) t:=⟨fun i x g hg _ hx hm=>hP.known i x hx hm,fun i g hg A9 _ hc=>hP.over i g hg A9 hc⟩
 have knows:∀l,l.isMemory=true->¬Zu Sb l->Perm t 0 l:=fun l hm hn i x hx e=>by
  subst e;exact(hP.known i x hx hm).resolve_right fun h=>hn h.1
 have A6:ComN P ty Wg C n Sb Res gs.size 0 gs w t (fun _=>⟨0,0,0⟩) (fun _ _=>False) (fun _ _=>False) (fun _=> .nilFunc) (fun i=>Tr.ofNat (q i)) q Giv o 0:=by
  refine⟨rfl,fun k hk=>by omega,fun i Cd hi=> ?_,⟨fun i op x hi hx hs=>absurd hs (hBW op (Array.mem_of_getElem? hi) x hx),fun k hk=>by omega,fun k hk=>by omega,fun l hm _ hn _=>knows l hm hn,fun l hm _ hn _=>Go.ConcN.PermW.of (knows l hm hn),hP.clean,fun i op hi=>by have:=I2 i op hi;omega⟩,B1,Ep,hP.hears,fun k hk=>by omega,fun k hk=>by omega,fun k hk=>by omega,Du,fun op A1=>MemAct.low_mono hB (hP.seen op A1),Ew⟩;obtain⟨g,hg⟩:∃g,gs[i]? =some g:=⟨_,YN hi⟩;exact⟨g,hg,hL.old i g Cd hg,rfl⟩
 have A5:BaseN w0 G0 w Giv:=⟨fun b hb=>⟨hG b hb,Na b hb⟩,h1,h2,h3,h4⟩
 have A7:∀tag,isOpen tag->pend tag=0->(∀vs,tag≠.w2 vs)->Go.ConcN.Mode 0 (fun _=>(⟨0,0,0⟩:WD)) tag 0 0:=fun tag h1 h2 h3=>by
  have:=Go.ConcN.Mode.opn (j:=0) (D:=fun _=>(⟨0,0,0⟩:WD)) h1 (fun i hi=>by omega) (fun vs e=>absurd e (h3 vs));simpa[Vc,Go.ConcN.sumTo,h2] using this
 have X8:∃μ,InvN P ty Wg C n Sb Res End AnchW gs.size w0 G0 μ (crowd gs w sl) t:=by
  cases n with
  |zero=>
   obtain⟨r,hk⟩:=H7;exact⟨_,gs,w,sl,0,_,_,_,_,_,q,.kd,Giv,o,(r,0),0,a,0,0,rfl,ha,.kd hk,A6,Au,A7 .kd trivial rfl (by simp),by simp,A5,rfl⟩
  |succ r=>
   obtain⟨f,hk⟩:=H7;have hc:=CS.skd (End:=End) (Nat.lt_succ_self r) hk;rw[Nat.sub_self] at hc;exact⟨_,gs,w,sl,0,_,_,_,_,_,q,.sp r 5,Giv,o,(f,0),0,a,0,0,rfl,ha,hc,A6,Au,A7 (.sp r 5) trivial rfl (by simp),by simp,A5,rfl⟩
 obtain⟨μ,hI⟩:=X8;exact Z6I hR Hi hn Dj C6 O4 μ _ _ hI
end
end Go.Nk
namespace Go.Proofs.Tryv
open Go Go.Nk Go.RowKit Go.Conc Go.Conc.Lib Go.ConcR.Gen Go.ConcN.Gen
open Go.ConcN (ShN WgLive PayAt Has CTag)
open Go.ConcR (KK WgAt stA smA rd wr mk Payload DC0)
open Go.Proofs.Tryq (theBan Zh ZH link payload wgLib Grew Sh Z7)
attribute [local instance] theBan
attribute [local instance] payload
structure Mn(N n:Nat)(cc:Array Value)(sh:Nat->Obj->Prop)(o:Nat->Prop)(w:World):Prop where
 box:w.heap[N]? =some (.cells cc 143)
 out:w.heap[N+2]? =some (.cells #[.slice (some ⟨N+1,0,none⟩) n n] 144)
 live:WgLive link.tWg (N+3) w
 oN:o N
 oO:o (N+2)
 oC:¬o (N+1)
 oW:¬o (N+3)
 lt:∀b,o b->b<w.heap.size
 sz:N+3<w.heap.size
 sh:∀b ob,sh b ob->o b/\w.heap[b]? =some ob
section
variable {N n:Nat} {cc:Array Value} {sh:Nat->Obj->Prop} {Sb Giv o:Nat->Prop} {w w₁:World} {S:(Nat->Prop)->Goroutine->World->Prop}
theorem Mn.rely(h:Mn N n cc sh o w)(hr:RMo link.tWg (N+3) (N+1) n o w w₁):Mn N n cc sh o w₁:=
 ⟨(hr.own _ h.oN).trans h.box,(hr.own _ h.oO).trans h.out,hr.live h.live,h.oN,h.oO,h.oC,h.oW,fun b hb=>YS (h.lt b hb) hr.size,YS h.sz hr.size,fun b ob hb=>⟨(h.sh b ob hb).1,(hr.own _ (h.sh b ob hb).1).trans (h.sh b ob hb).2⟩⟩
theorem ZB{F:(Nat->Prop)->World->Prop}(hF:∀o w w₁,RMo link.tWg (N+3) (N+1) n o w w₁->F o w->F o w₁){g g':Goroutine}(hs:g.status= .running)(law:∀w,stepG Tryz.prog true g w= .go g' w #[])(h:F o w)
 (next:∀w₁,F o w₁->∃r,GoT Tryz.prog true (RMo link.tWg (N+3) (N+1) n) (DMo (N+3) Sb Giv) S r o g' w₁):∃r,GoT Tryz.prog true (RMo link.tWg (N+3) (N+1) n) (DMo (N+3) Sb Giv) S r o g w:=by
 refine GoT.step hs fun w₁ hw=> ?_
 obtain⟨r,hr⟩:=next w₁ (hF _ _ _ hw h)
 exact⟨_,w₁,_,r,law w₁,⟨fun _ _ _=>rfl,Nat.le_refl _,rfl,rfl,rfl,fun e he=>by simp at he⟩,by rw[Z0a rfl];exact hr⟩
variable {b:Frame} {k:List Item} {cs:List Frame} {ops:Array Oper} {i:Nat} {rest:List Nat} {oo:Oper} {m:Nat->Value}
theorem Z8r{F:(Nat->Prop)->World->Prop}(hF:∀o w w₁,RMo link.tWg (N+3) (N+1) n o w w₁->F o w->F o w₁){d:Nat}{v:Value}(hk:b.kind≠.early)(ho:ops[i]? =some oo)(hd:oo.dst=some d)(hg:oo.guard=none)
 (hr:∀x:World,(execOp (Zd 23 m) oo).run Tryz.prog x= .ok (.value v) x/\∀e∈(execOp (Zd 23 m) oo).events Tryz.prog x #[],False)(h:F o w)
 (next:∀w₁,F o w₁->∃r,GoT Tryz.prog true (RMo link.tWg (N+3) (N+1) n) (DMo (N+3) Sb Giv) S r o (G (b.at (ZD 23 (upM m d v) []) (.inRegion ops rest::k)) cs) w₁):
 ∃r,GoT Tryz.prog true (RMo link.tWg (N+3) (N+1) n) (DMo (N+3) Sb Giv) S r o (G (b.at (ZD 23 m []) (.inRegion ops (i::rest)::k)) cs) w:=by
 refine GoT.step rfl fun w₁ hw=> ?_
 obtain⟨r,hn⟩:=next w₁ (hF _ _ _ hw h)
 obtain⟨h1,h2⟩:=hr w₁;have e:=stepG_value (main:=true) (b:=b) (k:=k) (cs:=cs) (rest:=rest) (a:=ZD 23 m []) ho (Z1L hg _) hk (by rw[actM_eval];exact h1);rw[hd,Z2x] at e;refine⟨_,w₁,_,r,e,⟨fun _ _ _=>rfl,Nat.le_refl _,rfl,rfl,rfl,fun ev Bh=> ?_⟩,by rw[Z0a rfl];exact hn⟩;have:=mem_listed Bh;rw[actM_eval] at this;exact(h2 ev this).elim
end
theorem Z6J(N n:Nat)(cc:Array Value)(sh:Nat->Obj->Prop):∀o w w₁,RMo link.tWg (N+3) (N+1) n o w w₁->Mn N n cc sh o w->Mn N n cc sh o w₁:=fun _ _ _ hr h=>h.rely hr
def MnI(N n:Nat)(cc:Array Value)(sh:Nat->Obj->Prop)(Ik:Nat)(u:Int)(o:Nat->Prop)(w:World):Prop:=Mn N n cc sh o w/\o Ik/\w.heap[Ik]? =some (.cells #[.int .i64 u] 3)
theorem Z7A(N n:Nat)(cc:Array Value)(sh:Nat->Obj->Prop)(Ik:Nat)(u:Int):∀o w w₁,RMo link.tWg (N+3) (N+1) n o w w₁->MnI N n cc sh Ik u o w->MnI N n cc sh Ik u o w₁:=
 fun _ _ _ hr h=>⟨h.1.rely hr,h.2.1,(hr.own _ h.2.1).trans h.2.2⟩
section
variable {N n:Nat} {cc:Array Value} {sh:Nat->Obj->Prop} {Sb Giv o:Nat->Prop} {w w₁:World} {S:(Nat->Prop)->Goroutine->World->Prop} {b:Frame} {k:List Item} {cs:List Frame} {ops:Array Oper} {i:Nat} {rest:List Nat} {oo:Oper} {m:Nat->Value}
theorem Z2P(w:World)(ob:Obj):(w.alloc ob).heap=w.heap.push ob:=rfl
theorem Z5S{w:World}{ob:Obj}{b:Nat}(h:b<w.heap.size):(w.alloc ob).heap[b]? =w.heap[b]? :=by
 rw[Z2P,Array.getElem?_push,if_neg (by omega)]
theorem Za0(w:World)(ob:Obj):(w.alloc ob).heap[w.heap.size]? =some ob:=by
 rw[Z2P,Array.getElem?_push,if_pos rfl]
theorem Za1(hk:b.kind≠.early)(ho:ops[i]? =some oo)(hd:oo.dst=some 5)(hg:oo.guard=none)(A1:oo.op= .alloc 3)(h:Mn N n cc sh o w)
 (next:∀o' w₁ Ik,MnI N n cc sh Ik 0 o' w₁->w.heap.size<=Ik->(∀x,o x->o' x)->∃r,GoT Tryz.prog true (RMo link.tWg (N+3) (N+1) n) (DMo (N+3) Sb Giv) S r o' (G (b.at (ZD 23 (upM m 5 (.pointer (some ⟨Ik,0,none⟩))) []) (.inRegion ops rest::k)) cs) w₁):
 ∃r,GoT Tryz.prog true (RMo link.tWg (N+3) (N+1) n) (DMo (N+3) Sb Giv) S r o (G (b.at (ZD 23 m []) (.inRegion ops (i::rest)::k)) cs) w:=by
 refine GoT.step rfl fun w₁ hw=> ?_
 have h1:=h.rely hw;obtain⟨e1,e2⟩:=Z6D (m:=m) (w:=w₁) (z:= #[.int .i64 0]) A1 (.inr (.inr ⟨rfl,rfl⟩));have e:=stepG_value (main:=true) (b:=b) (k:=k) (cs:=cs) (rest:=rest) (a:=ZD 23 m []) ho (Z1L hg _) hk (by rw[actM_eval];exact e1);rw[hd,Z2x] at e;have Az:(w₁.alloc (.cells #[.int .i64 0] 3)).heap.size=w₁.heap.size+1:=by rw[Z2P];simp
 have old:∀{x ob},w₁.heap[x]? =some ob->(w₁.alloc (.cells #[.int .i64 0] 3)).heap[x]? =some ob:=fun{x ob} hx=>(Z5S (YF.1 hx).1).trans hx
 have hM:Mn N n cc sh (grow o w₁ (w₁.alloc (.cells #[.int .i64 0] 3))) (w₁.alloc (.cells #[.int .i64 0] 3)):=by
  have hsz1:=h1.sz;refine⟨old h1.box,old h1.out,?_,.inl h1.oN,.inl h1.oO,?_,?_,fun x hx=> ?_,by omega,fun x ob hx=>⟨.inl (h1.sh x ob hx).1,old (h1.sh x ob hx).2⟩⟩
  ·obtain⟨x,y,hx⟩:=h1.live;exact⟨x,y,old hx⟩
  ·rintro(hx|⟨hx,_⟩)
   ·exact h1.oC hx
   ·omega
  ·rintro(hx|⟨hx,_⟩)
   ·exact h1.oW hx
   ·omega
  ·rcases hx with hx|⟨_,hx⟩
   ·have:=h1.lt x hx;omega
   ·exact hx
 obtain⟨r,hn⟩:=next _ (w₁.alloc (.cells #[.int .i64 0] 3)) w₁.heap.size ⟨hM,.inr ⟨Nat.le_refl _,by omega⟩,Za0 _ _⟩ hw.size (fun x hx=> .inl hx)
 refine⟨_,_,_,r,e,⟨fun x hx _=>Z5S hx,by omega,rfl,rfl,rfl,fun ev Bh=> ?_⟩,hn⟩;have:=mem_listed Bh;rw[actM_eval] at this;exact(e2 ev this).elim
theorem Za2{Ik:Nat}{u j:Int}(hk:b.kind≠.early)(ho:ops[i]? =some oo)(hd:oo.dst=none)(hg:oo.guard=none)(A1:oo.op= .store 3 (.tmp 5) (.tmp 17))(h5:m 5= .pointer (some ⟨Ik,0,none⟩))(Ux:m 17= .int .i64 j)(h:MnI N n cc sh Ik u o w)
 (hI:¬Giv Ik)(M8:¬Sb Ik)(Uy:Ik≠N/\Ik≠N+1/\Ik≠N+2/\Ik≠N+3/\∀b ob,sh b ob->b≠Ik)
 (next:∀w₁,MnI N n cc sh Ik j o w₁->∃r,GoT Tryz.prog true (RMo link.tWg (N+3) (N+1) n) (DMo (N+3) Sb Giv) S r o (G (b.at (ZD 23 m []) (.inRegion ops rest::k)) cs) w₁):
 ∃r,GoT Tryz.prog true (RMo link.tWg (N+3) (N+1) n) (DMo (N+3) Sb Giv) S r o (G (b.at (ZD 23 m []) (.inRegion ops (i::rest)::k)) cs) w:=by
 refine GoT.step rfl fun w₁ hw=> ?_
 obtain⟨h1,Pv,J3⟩:=Z7A N n cc sh Ik u _ _ _ hw h;have hc:w₁.cell? ⟨Ik,0,none⟩=some (.int .i64 u):=by simp[World.cell?,J3]
 have hz:w₁.frozen? ⟨Ik,0,none⟩=false:=by simp[World.frozen?,J3]
 obtain⟨e1,e2⟩:=Z6E (m:=m) (w:=w₁) (a:=⟨Ik,0,none⟩) (v:= .int .i64 j) A1 (by decide) (by decide) h5 Ux (.inr ⟨rfl,_,rfl⟩) hc hz;have e:=stepG_none (main:=true) (b:=b) (k:=k) (cs:=cs) (rest:=rest) (a:=ZD 23 m []) ho (Z1L hg _) hk (by rw[actM_eval];exact e1);rw[hd] at e;have hA:=aside_setCell w₁ ⟨Ik,0,none⟩ (.int .i64 j);have hb:(w₁.setCell ⟨Ik,0,none⟩ (.int .i64 j)).heap[Ik]? =some (.cells #[.int .i64 j] 3):=by
  rw[setCell_eq_setRow w₁ Ik 0 #[.int .i64 u] _ (0,0) _ J3,setRow_heap w₁ Ik _ _ _ _ J3];rfl
 have hM:MnI N n cc sh Ik j o (w₁.setCell ⟨Ik,0,none⟩ (.int .i64 j)):=by
  refine⟨⟨(hA.block _ (Ne.symm Uy.1)).trans h1.box,(hA.block _ (Ne.symm Uy.2.2.1)).trans h1.out,?_,h1.oN,h1.oO,h1.oC,h1.oW,fun x hx=>by rw[hA.size];exact h1.lt x hx,by rw[hA.size];exact h1.sz,fun x ob hx=>⟨(h1.sh x ob hx).1,(hA.block _ (Uy.2.2.2.2 x ob hx)).trans (h1.sh x ob hx).2⟩⟩,Pv,hb⟩;obtain⟨x,y,hx⟩:=h1.live;exact⟨x,y,(hA.block _ (Ne.symm Uy.2.2.2.1)).trans hx⟩
 obtain⟨r,hn⟩:=next _ hM
 have I2:grow o w₁ (w₁.setCell ⟨Ik,0,none⟩ (.int .i64 j))=o:=Z0a hA.size;refine⟨_,_,_,r,e,⟨fun x hx Bv=>hA.block x fun ex=> ?_,Nat.le_of_eq hA.size.symm,hA.tape,hA.os,hA.output,fun ev Bh=> ?_⟩,by rw[I2];exact hn⟩
 ·subst ex;exact Bv.elim (fun h=>h Pv) hI
 ·have:=mem_listed Bh;rw[actM_eval] at this;have he:=e2 ev this;subst he;refine⟨⟨fun x hx=> ?_,by simp[Z0r]⟩,?_⟩
  ·simp only[ConcR.ofEvent_cell,MemAct.touch?,Option.some.injEq] at hx;subst hx;rw[I2];refine .inr ⟨.inl ⟨_,rfl,Pv⟩,?_,fun _=> ?_⟩
   ·rintro⟨x,ex,hx⟩;cases ex;exact M8 hx
   ·rintro(⟨x,ex,hx⟩|⟨x,ex,hx⟩)
    ·cases ex;exact hI hx
    ·cases ex
  ·simp only[ConcR.ofEvent_cell,MemAct.low];rw[hA.size];exact h1.lt _ Pv
end
noncomputable def kL:List Item:=[.inLoop L82,.inBlock 0,.code T82]
def Z8s(N Ik:Nat):Deferred:={target:= .fn (.func 162) #[.pointer (some ⟨N+3,0,none⟩),.pointer (some ⟨N,0,none⟩),.pointer (some ⟨Ik,0,none⟩),.pointer (some ⟨N+2,0,none⟩)],args:= #[]}
structure Hm(N n j:Nat)(m:Nat->Value):Prop where
 t1:m 1= .pointer (some ⟨N,0,none⟩)
 t3:m 3= .pointer (some ⟨N+2,0,none⟩)
 t4:m 4= .pointer (some ⟨N+3,0,none⟩)
 t14:m 14= .int .i64 n
 t15:m 15= .int .i64 j
theorem Hm.up{N n j d:Nat}{m:Nat->Value}{v:Value}(h:Hm N n j m)(hd:d≠1/\d≠3/\d≠4/\d≠14/\d≠15):Hm N n j (upM m d v):=
 ⟨(if_neg hd.1).trans h.t1,(if_neg hd.2.1).trans h.t3,(if_neg hd.2.2.1).trans h.t4,(if_neg hd.2.2.2.1).trans h.t14,(if_neg hd.2.2.2.2).trans h.t15⟩
section
variable {o:Oper} {m:Nat->Value} {w:World}
theorem Zdi{P:Program}{f:FuncId}{fn:Func}(hf:P.funcs[f]? =some fn)(hn:(fn.name== "runtime.NumGoroutine")=false)(hb:fn.body.isNone=false)(args:Array Value)(w:World):(callFunc f args).events P w #[]= #[]:=by
 have hn':¬fn.name= "runtime.NumGoroutine" :=by simpa using hn
 have hb':¬fn.body=none:=fun h=>by rw[h] at hb;cases hb
 simp[callFunc,hf,hn',hb',go_sem]
theorem Zcq{f:FuncId}{fn:Func}{xs:Array Operand}{ats:Array TypeId}{vs:Array Value}(hf:Tryz.prog.funcs[f]? =some fn)(hn:(fn.name== "runtime.NumGoroutine")=false)(hb:fn.body.isNone=false)(A1:o.op= .call {callee:= .value (.func f),args:=xs,argTypes:=ats})(hv:xs.map (Zd 23 m)=vs):
 (execOp (Zd 23 m) o).run Tryz.prog w= .ok (.enter f vs) w/\∀e∈(execOp (Zd 23 m) o).events Tryz.prog w #[],False:=by
 have ef:Zd 23 m (.func f)= .func (.func f) #[] #[]:=rfl;have hc:=Z7 hf hn hb vs w;have he':=Zdi hf hn hb vs w;unfold execOp;simp only[A1,resolve,hv,ef,Deferred.ofValue];constructor
 ·simpa[invoke,go_sem] using hc
 ·intro e he;simp[invoke,go_sem,he'] at he
theorem Zeb{N Ik n j:Nat}(A1:o.op= .makeFunc (.func 162) #[] #[.tmp 4,.tmp 1,.tmp 5,.tmp 3])(h:Hm N n j m)(h5:m 5= .pointer (some ⟨Ik,0,none⟩)):
 (execOp (Zd 23 m) o).run Tryz.prog w= .ok (.value (.func (.func 162) #[] #[.pointer (some ⟨N+3,0,none⟩),.pointer (some ⟨N,0,none⟩),.pointer (some ⟨Ik,0,none⟩),.pointer (some ⟨N+2,0,none⟩)])) w/\∀e∈(execOp (Zd 23 m) o).events Tryz.prog w #[],False:=by
 have e1:Zd 23 m (.tmp 4)= .pointer (some ⟨N+3,0,none⟩):=h.t4;have e2:Zd 23 m (.tmp 1)= .pointer (some ⟨N,0,none⟩):=h.t1;have e3:Zd 23 m (.tmp 5)= .pointer (some ⟨Ik,0,none⟩):=h5;have e4:Zd 23 m (.tmp 3)= .pointer (some ⟨N+2,0,none⟩):=h.t3;unfold execOp;simp only[A1,List.map_toArray,List.map_cons,List.map_nil,e1,e2,e3,e4];constructor
 ·simp[go_sem,Instr.makeFunc]
 ·intro e he;simp[go_sem,Instr.makeFunc] at he
theorem r_go{N Ik:Nat}(A1:o.op= .go {callee:= .value (.tmp 19),args:= #[],argTypes:= #[]})(h:m 19= .func (.func 162) #[] #[.pointer (some ⟨N+3,0,none⟩),.pointer (some ⟨N,0,none⟩),.pointer (some ⟨Ik,0,none⟩),.pointer (some ⟨N+2,0,none⟩)]):
 (execOp (Zd 23 m) o).run Tryz.prog w= .ok (.spawn (Z8s N Ik)) w/\(execOp (Zd 23 m) o).events Tryz.prog w #[]= #[]:=by
 have e1:Zd 23 m (.tmp 19)= .func (.func 162) #[] #[.pointer (some ⟨N+3,0,none⟩),.pointer (some ⟨N,0,none⟩),.pointer (some ⟨Ik,0,none⟩),.pointer (some ⟨N+2,0,none⟩)]:=h;unfold execOp;simp only[A1,resolve,e1,Deferred.ofValue];constructor
 ·simp[go_sem,Z8s]
 ·simp[go_sem]
end
end Go.Proofs.Tryv
