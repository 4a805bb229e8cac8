import Derived.Test.YthahddndgbpooaaGreatDoorNkA
import Derived.Test.YthahddndgbpooaaGreatDoorNk18
import Derived.Conc.CrowdStepC2
set_option linter.all false
set_option maxHeartbeats 3200000
open Go Go.Conc
variable {ops:Array Oper}{cc vs:Array Value}{b:Frame}{fn:Func}{f:FuncId}{u:Int}{cs:List Frame}{k:List Item}{C Ik N0 Wg d i j n:Nat}{G0 Giv Sb:Nat->Prop}{ob:Obj}{oo:Oper}{P:Program}{pos:String}{ty:TypeId}{v:Value}{w w0 w₁:World}
namespace Go.Nk
section
open Go.ConcN (ShN WgLive PayAt Has CTag RW upd upd_same upd_ne WD RelBy Vc Ssum cnt phi isOpen isW3 isFin OpenSt AllQuit pend sumTo sumTo_upd Vc_upd Vc_le others_uncounted le_sumTo bk_cell deafBehind_idle norel_of_Bk)
open Go.ConcR (KK WgAt stA smA rd wr mk Payload DC0 g_of_ofEvents Bk ofEvent_loc_mark ofEvent_cell bk_of_mute)
variable [Payload]
section
variable {Res:Nat->(Nat->Prop)->Value->World->Prop}{End AnchW:(Nat->Prop)->Goroutine->World->Prop}
 {gs:Array Goroutine} {w w':World} {sl:Option (Nat×Nat)} {j:Nat} {D:Nat->WD} {O Rk:Nat->Nat->Prop} {val:Nat->Value} {F:Nat->Tr} {q:Nat->Nat} {tag:CTag} {Giv o:Nat->Prop} {f0:Tr×Nat} {d0:Nat} {a:Goroutine} {t:Trace} {st sm:Int}
theorem GoT.cases{main:Bool}{R:(Nat->Prop)->World->World->Prop}{Dd:(Nat->Prop)->World->World->Array Event->Prop}{Stop:(Nat->Prop)->Goroutine->World->Prop}{r:Tr}{o:Nat->Prop}{g:Goroutine}{w:World}(refl:R o w w)(h:GoT P main R Dd Stop r o g w):
 (∀w₁,R o w w₁->Stop o g w₁)\/∃r' g' w' es,ZaS r' r/\stepG P main g w= .go g' w' es/\Dd o w w' es/\GoT P main R Dd Stop r' (grow o w w') g' w':=by
 cases r with
 |leaf=>exact .inl h
 |node f=>
  rcases h with h|⟨_,h⟩
  ·exact .inl h
  ·obtain⟨g',w',es,e,d,x⟩:=goes_iff.1 (h w refl);exact .inr ⟨f w,g',w',es,⟨f,w,rfl,rfl⟩,e,d,x⟩
omit [Payload] in
theorem ZbA(m:Nat)(w:World):ZaS (Tr.ofNat m) (Tr.ofNat (m+1)):=⟨_,w,rfl,rfl⟩
theorem Z9Z(hR:ResOk Res)(hN:0<N0)(Dw:∀o g w,AnchW o g w->g.status= .running)(Br:∀o g w,End o g w->g.status= .running)(hn:n<2147483648)(Vd:j+pend tag<=n)
 (ha:gs[0]? =some a)(Ag:CS P ty Wg C n Sb Res End AnchW tag j Giv o f0 d0 a w)(A8:ComN P ty Wg C n Sb Res N0 j gs w t D O Rk val F q Giv o d0)(A6:BaseN w0 G0 w Giv)(Ax:WgAt ty Wg w st sm)(A7:Go.ConcN.Mode j D tag st sm)(Cf:tag= .ret->AcqN Wg N0 j t)
 {k:Nat}(hk:k<j){g:Goroutine}(hg:gs[N0+k]? =some g)(Aj:g.status= .running):
 Z1y P ty Wg C n Sb Res End AnchW N0 w0 G0 ((phi n (Vc j D) tag+Ssum j D,N0+j,F),f0) (runT P (crowd gs w sl) (N0+k)) t:=by
 obtain⟨g₁,hg₁,hs⟩:=A8.wk k hk;obtain rfl:g=g₁:=by rw[hg] at hg₁;exact YT hg₁
 generalize Ai:(D k).stage=s at hs;generalize Rl:(D k).deaf=dd at hs;generalize hfu:F (N0+k)=fu at hs;generalize hva:val k=va at hs;generalize hOk:O k=Ok0 at hs;have hVj:=Vc_le j D;have Xc:Deaf t (N0+k)=dd:=by rw[A8.deafW k hk,Rl]
 have Oa:=A8.geo.hWg;have nr:s≠1->tag≠.ret:=λh=>A7.not_ret hk (by omega)
 cases hs with
 |work h=>
  subst hOk;rcases GoT.cases (RWo.refl _ w) h with Ae|⟨r',g',w',es,A3,Al,hD,hg'⟩
  ·obtain⟨v,Av,_,Ja,g',Al,m₂,Fk⟩:=Ae w (RWo.refl _ w)
   refine Z3D (v':=v) (Ok:=O k) (r':=Tr.ofNat m₂) hR hN Dw Br ha Ag A8 A6 hk hg Al (.refl _ w) (λ_ _ _=>RWo.refl _ w) (λ_ h=>h) (λ_ h=> .inl h) (.late (by omega) (.k1 Fk)) ?_ ?_ (by intro e he;simp at he;subst he;simp[mk]) (by rw[Rl];rfl) (λ_=>⟨t.size,?_⟩)
    (λ_=>⟨by simpa using Ja,Av⟩) Ax (λ_ ht _=>(A7.counted hk (by omega) (.inl rfl) _ _).retag ht) (λe=>absurd e (nr (by omega))) (.inl ⟨by omega,by simp[cnt,Ai]⟩)
   ·intro op A2;obtain⟨e,he,rfl⟩:=XN A2;simp at he;subst he;exact⟨rfl,λx hx=>by cases hx⟩
   ·intro op A2;obtain⟨e,he,rfl⟩:=XN A2;simp at he;subst he;exact Oa
   ·refine⟨RelBy.new Xc _ _,λi x hi hgi hx=> ?_⟩;obtain⟨op,A2,No⟩:=touch_of hx;rcases getElem?_append_cases A2 with⟨A3,_⟩|⟨_,F2⟩
    ·omega
    ·obtain⟨e,he,rfl⟩:=XN F2;simp at he;subst he;cases No
  ·refine Z3D (v':=va) hR hN Dw Br ha Ag A8 A6 hk hg Al (RMo.of_work A8.geo hk hD) (λk' hk' A9=>RWo.of_work A8.geo hk hk' A9 hD) (λb hb=> .inl hb) (λb hb=>hb) (.work hg') (Zdg λe he=>(hD.evs e he).1)
    (λop A2=>by obtain⟨e,he,rfl⟩:=XN A2;exact(hD.evs e he).2) (λe he=>(hD.evs e he).1.2.2.2) (by rw[Rl];exact deafBehind_idle (λe he=>⟨(hD.evs e he).1.2.1,(hD.evs e he).1.2.2.1⟩) 0) (λh=>by omega) (λh=>by omega)
    (Ax.of_block (hD.stay Wg Oa (λho=>(A8.geo.sep k hk _ ho).2.1 rfl) (SC A8.geo.hCW))) (λ_ ht _=>Go.ConcN.Mode.retag (by have:=A7.same (i:=k) 0 0;rwa [Ai] at this) ht) (λe=>absurd e (nr (by omega))) (.inr ⟨Ai.symm,by rw[hfu];exact A3⟩)
 | @late s m d o' g w D9 hs=>
   subst hva;subst hOk
   have bookG:∀{g':Goroutine}{w':World}{es:Array Event}{s' m' dd':Nat}{st' sm':Int},stepG P false g w= .go g' w' es->Aside Wg w w'->WgAt ty Wg w' st' sm'->(∀e∈es,Bk Wg e)->
    (∀jx e,es[jx]? =some e->(MemAct.ofEvent e).touch? =none\/0<deafBehind dd (es.extract 0 jx))->s'<=6->Go.ConcN.WSit P ty Wg C n (λ_ _=>False) (λ_ _=>False) 0 (k+1) (val k) s' m' dd' g' w'->deafBehind dd es=dd'->
    (∀tag',(tag'=tag\/(tag= .blk/\tag'= .w3))->(mayWake P g=true->g'.status= .running->tag'≠.blk)->Go.ConcN.Mode j (upd D k ⟨s',0,dd'⟩) tag' st' sm')->(tag= .ret->AcqN Wg N0 j (t++MemOp.ofEvents (N0+k) g.frame.fn g.frame.place es))->((s'<s/\cnt ⟨s',0,dd'⟩<=cnt (D k))\/(s'=s/\m'+1=m))->
    Z1y P ty Wg C n Sb Res End AnchW N0 w0 G0 ((phi n (Vc j D) tag+Ssum j D,N0+j,F),f0) (runT P (crowd gs w sl) (N0+k)) t:=by
    intro g' w' es s' m' dd' st' sm' Al Fp Dq Dr hd h6 hs' Eo E8 Jb A3
    refine Z3D (v':=val k) (Ok:=O k) (r':=Tr.ofNat m') hR hN Dw Br ha Ag A8 A6 hk hg Al (RMo.of_wg A8.geo Fp ⟨_,_,Dq⟩) (λk' hk' _=>RWo.of_wg A8.geo hk' Fp ⟨_,_,Dq⟩) (λ_ h=>h) (λ_ h=> .inl h) (.late h6 hs') (Z8o Dr) (Z5Q (by rw[Fp.size];exact Oa) Dr)
     (norel_of_Bk Dr) (by rw[Rl];exact Eo) (λ_=> ?_) (λ_=> ?_) Dq E8 Jb ?_
    ·obtain⟨r,hr⟩:=A8.rel k hk (by omega);exact⟨r,hr.app (Go.ConcN.RelBy.book hr.by_ Xc _ _ Dr hd) (λop A2 _=>Z4b Dr op A2)⟩
    ·obtain⟨h1,h2⟩:=A8.has k hk (by omega);exact⟨(Z6G (Fp.block C A8.geo.hCW) k).trans h1,hR _ _ _ _ _ (λb hb=>Fp.block b (A8.geo.sep k hk b hb).2.1) h2⟩
    ·rw[Ai,hfu];exact A3.imp id fun⟨h1,h2⟩=>⟨h1,by subst h2;exact ZbA m' w⟩
   have book:∀{g':Goroutine}{w':World}{es:Array Event}{s' m' dd':Nat}{st' sm':Int},stepG P false g w= .go g' w' es->Aside Wg w w'->WgAt ty Wg w' st' sm'->(∀e∈es,Bk Wg e)->
    (∀jx e,es[jx]? =some e->(MemAct.ofEvent e).touch? =none\/0<deafBehind dd (es.extract 0 jx))->s'<=6->Go.ConcN.WSit P ty Wg C n (λ_ _=>False) (λ_ _=>False) 0 (k+1) (val k) s' m' dd' g' w'->deafBehind dd es=dd'->
    Go.ConcN.Mode j (upd D k ⟨s',0,dd'⟩) tag st' sm'->(tag= .ret->AcqN Wg N0 j (t++MemOp.ofEvents (N0+k) g.frame.fn g.frame.place es))->((s'<s/\cnt ⟨s',0,dd'⟩<=cnt (D k))\/(s'=s/\m'+1=m))->
    Z1y P ty Wg C n Sb Res End AnchW N0 w0 G0 ((phi n (Vc j D) tag+Ssum j D,N0+j,F),f0) (runT P (crowd gs w sl) (N0+k)) t:=
    λAl Fp Dq Dr hd h6 hs' Eo E8 Jb A3=>bookG Al Fp Dq Dr hd h6 hs' Eo (λ_ ht _=>E8.retag ht) Jb A3
   have idle:∀{g':Goroutine}{m':Nat},stepG P false g w= .go g' w #[]->Go.ConcN.WSit P ty Wg C n (λ_ _=>False) (λ_ _=>False) 0 (k+1) (val k) s m' dd g' w->m'+1=m->s≠1->
    Z1y P ty Wg C n Sb Res End AnchW N0 w0 G0 ((phi n (Vc j D) tag+Ssum j D,N0+j,F),f0) (runT P (crowd gs w sl) (N0+k)) t:=by
    intro g' m' Al hs' hm h1;exact book Al (.refl Wg w) Ax (by simp) (by simp) D9 hs' rfl (by have:=A7.same (i:=k) 0 dd;rwa [Ai] at this) (λe=>absurd e (A7.not_ret hk (by omega))) (.inr ⟨rfl,hm⟩)
   cases hs with
   |r0 h=>omega
   |k1 h=>
    rcases RZ h with Ae|⟨m',rfl,Ad⟩
    ·obtain⟨_,g',Al,m₂,Az⟩:=Ae w (QY w)
     exact book Al (.refl Wg w) Ax (by intro e he;simp at he;subst he;exact .inl rfl) (by intro jx e he;exact .inl (by have:=Array.mem_of_getElem? he;simp at this;subst this;rfl)) (by omega) (.d1 Az) rfl
      (A7.counted hk (by omega) (.inr rfl) _ _) (λe=>absurd e (nr (by omega))) (.inl ⟨by omega,by simp[cnt,Ai]⟩)
    ·obtain⟨g',w',es,Al,⟨rfl,rfl⟩,hg'⟩:=Ad w (QY w);exact idle Al (.k1 hg') rfl (by omega)
   |d1 h=>
    rcases RZ h with Ae|⟨m',rfl,Ad⟩
    ·obtain⟨_,Aq⟩:=Ae w (QY w);have Ew:cnt (D k)=1:=(by simp[cnt,Ai]);have Re:1<=Vc j D:=(by have:=le_sumTo (f:=λx=>cnt (D x)) hk;simp only[Vc];omega);have bk2:∀e∈#[rd (stA Wg),wr (stA Wg)],Bk Wg e:=(by intro e he;simp at he;rcases he with rfl|rfl<;>exact bk_cell _ _ rfl);have df2:∀jx e,(#[rd (stA Wg),wr (stA Wg)]:Array Event)[jx]? =some e->(MemAct.ofEvent e).touch? =none\/0<deafBehind 1 ((#[rd (stA Wg),wr (stA Wg)]:Array Event).extract 0 jx):=by
      intro jx e he
      match jx,he with
      |0,_=>exact .inr (by simp[deafBehind])
      |1,_=>exact .inr (by simp[deafBehind,rd])
      |jx+2,he=>simp at he
     have R9:cnt (⟨1,0,1⟩:WD)=0:=rfl
     have opq:OpenSt j D->OpenSt j (upd D k ⟨1,0,1⟩):=λh a ha=>by
      by_cases e:a=k
      ·subst e;rw[VF];simp
      ·rw[upd_ne D _ e];exact h a ha
     cases A7 with
     |opn h1 h2 h3=>
      obtain⟨v,hv⟩:∃v,Vc j D+pend tag=v+1:=⟨Vc j D+pend tag - 1,by omega⟩;rw[hv] at Ax;have Fq:WgAt ty Wg w (((v:Nat)+1)*KK+((0:Nat):Int)) 0:=(by simpa using Ax);obtain⟨g',Al,_,hq⟩:=Aq v 0 (by omega) (by omega) Fq;obtain⟨qq,hq⟩:=hq (by omega);have hv':Vc j (upd D k ⟨1,0,1⟩)+pend tag=v:=(by have:=Vc_upd D (⟨1,0,1⟩:WD) hk;omega);refine book Al (TI w (stA Wg) _) (Ax.setSt _) bk2 df2 (by omega) (.quit hq) rfl ?_ (λe=>absurd e (nr (by omega))) (.inl ⟨by omega,by simp[cnt]⟩);have e:((v:Nat):Int)*KK+((0:Nat):Int)=((Vc j (upd D k ⟨1,0,1⟩)+pend tag:Nat):Int)*KK:=(by rw[hv'];simp);rw[e];exact .opn h1 (opq h2) (λvs ev=>by have:=h3 vs ev;omega)
     |reg h1 h2 h3=>
      obtain⟨v,hv⟩:∃v,Vc j D=v+1:=⟨Vc j D - 1,by omega⟩;rw[hv] at Ax;have hp:pend tag=0:=(by cases tag<;>first|rfl|exact h1.elim);have Fq:WgAt ty Wg w (((v:Nat)+1)*KK+((1:Nat):Int)) 0:=(by simpa using Ax);obtain⟨g',Al,hl,hq⟩:=Aq v 1 (by omega) (by omega) Fq;by_cases Rm:v=0
      ·subst Rm;obtain⟨m₂,Az⟩:=hl ⟨rfl,rfl⟩;refine book Al (TI w (stA Wg) _) (Ax.setSt _) bk2 df2 (by omega) (.d2 Az) rfl ?_ (λe=>absurd e (nr (by omega))) (.inl ⟨by omega,by simp[cnt]⟩)
       have Fa:∀a,a<j->a≠k->(D a).stage=1:=λa ha e=>by
        have c0:=others_uncounted hk hv Ew a ha e;have:=h2 a ha;simp only[cnt] at c0;split at c0<;>omega
       have:=Go.ConcN.Mode.last (j:=j) (D:=upd D k ⟨4,0,1⟩) (tag:=tag) k h1 hk (by rw[VF];simp) (λa ha e=>by rw[upd_ne D _ e];exact Fa a ha e);rw[VF] at this;simpa using this
      ·obtain⟨qq,hq⟩:=hq (by omega);have hv':Vc j (upd D k ⟨1,0,1⟩)=v:=(by have:=Vc_upd D (⟨1,0,1⟩:WD) hk;omega);refine book Al (TI w (stA Wg) _) (Ax.setSt _) bk2 df2 (by omega) (.quit hq) rfl ?_ (λe=>absurd e (nr (by omega))) (.inl ⟨by omega,by simp[cnt]⟩);have e:((v:Nat):Int)*KK+((1:Nat):Int)=((Vc j (upd D k ⟨1,0,1⟩):Nat):Int)*KK+1:=(by rw[hv'];simp);rw[e];exact .reg h1 (opq h2) (by omega)
     |last L _ h2 h3 h4=>
      by_cases e:k=L
      ·subst e;omega
      ·have:=h4 k hk e;omega
     |sema h2=>have:=h2 k hk;omega
     |fin _ h2=>have:=h2 k hk;omega
    ·obtain⟨g',w',es,Al,⟨rfl,rfl⟩,hg'⟩:=Ad w (QY w);exact idle Al (.d1 hg') rfl (by omega)
   |d2 h=>
    rcases RZ h with Ae|⟨m',rfl,Ad⟩
    ·obtain⟨_,hx⟩:=Ae w (QY w);obtain⟨Rn,Fa,rfl,rfl⟩:=A7.isLast hk (by omega);simp only[Ai] at Ax;obtain⟨g',Al,m₂,Az⟩:=hx (by simpa using Ax);refine book Al (.refl Wg w) Ax (by intro e he;simp at he;subst he;exact bk_cell _ _ rfl) (by intro jx e he;match jx,he with|0,_=>exact .inr (by simp[deafBehind])|jx+1,he=>simp at he) (by omega) (.d3 Az) rfl ?_ (λe=>absurd e (nr (by omega))) (.inl ⟨by omega,by simp[cnt]⟩);have:=Go.ConcN.Mode.last (j:=j) (D:=upd D k ⟨3,0,1⟩) (tag:=tag) k Rn hk (by rw[VF];simp) (λa ha e=>by rw[upd_ne D _ e];exact Fa a ha e);rw[VF] at this;simpa using this
    ·obtain⟨g',w',es,Al,⟨rfl,rfl⟩,hg'⟩:=Ad w (QY w);exact idle Al (.d2 hg') rfl (by omega)
   |d3 h=>
    rcases RZ h with Ae|⟨m',rfl,Ad⟩
    ·obtain⟨_,hx⟩:=Ae w (QY w);obtain⟨Rn,Fa,rfl,rfl⟩:=A7.isLast hk (by omega);simp only[Ai] at Ax;obtain⟨g',Al,m₂,Az⟩:=hx (by simpa using Ax);refine book Al (TI w (stA Wg) _) (Ax.setSt 0) (by intro e he;simp at he;subst he;exact bk_cell _ _ rfl) (by intro jx e he;match jx,he with|0,_=>exact .inr (by simp[deafBehind])|jx+1,he=>simp at he) (by omega) (.d4 Az) rfl ?_ (λe=>absurd e (nr (by omega))) (.inl ⟨by omega,by simp[cnt]⟩);have:=Go.ConcN.Mode.last (j:=j) (D:=upd D k ⟨2,0,1⟩) (tag:=tag) k Rn hk (by rw[VF];simp) (λa ha e=>by rw[upd_ne D _ e];exact Fa a ha e);rw[VF] at this;simpa using this
    ·obtain⟨g',w',es,Al,⟨rfl,rfl⟩,hg'⟩:=Ad w (QY w);exact idle Al (.d3 hg') rfl (by omega)
   |d4 h=>
    rcases RZ h with Ae|⟨m',rfl,Ad⟩
    ·obtain⟨_,hmw,hx⟩:=Ae w (QY w);obtain⟨Rn,Fa,rfl,rfl⟩:=A7.isLast hk (by omega);simp only[Ai] at Ax;obtain⟨g',Al,qq,hq⟩:=hx (by simpa using Ax);have G8:g'.status= .running:=by
      cases qq with
      |zero=>exact absurd hq.2 (by decide)
      |succ qq=>exact hq.elim (λx=>absurd x.2 (by decide)) (λx=>x.1)
     refine bookG Al (TI w (smA Wg) _) (Ax.setSm 1) (es:=semEvents (smA Wg)) Go.ConcN.bk_sem ?_ (by omega) (.quit hq) (by simp[deafBehind,semEvents]) ?_ (λe=>absurd e (nr (by omega))) (.inl ⟨by omega,by simp[cnt]⟩)
     ·intro jx e he
      match jx,he with
      |0,he=>simp[semEvents] at he;subst he;exact .inl rfl
      |1,_=>exact .inr (by simp[deafBehind,semEvents])
      |2,_=>exact .inr (by simp[deafBehind,semEvents])
      |3,he=>simp[semEvents] at he;subst he;exact .inl rfl
      |jx+4,he=>simp[semEvents] at he
     ·intro tag' ht hw;have hnb:=hw hmw G8;have e3:tag'= .w3:=by
       rcases ht with rfl|⟨_,rfl⟩
       ·cases tag'<;>first|rfl|exact Rn.elim|exact absurd rfl hnb
       ·rfl
      subst e3;simp only[XQ]
      exact .sema λa ha=>by
       by_cases e:a=k
       ·subst e;rw[VF]
       ·rw[upd_ne D _ e];exact Fa a ha e
    ·obtain⟨g',w',es,Al,⟨rfl,rfl⟩,hg'⟩:=Ad w (QY w);exact idle Al (.d4 hg') rfl (by omega)
   |quit h=>
    cases m with
    |zero=>rw[h.1] at Aj;cases Aj
    |succ qq=>
     rcases h with⟨hf,_⟩|⟨_,g',es,Mf,Ad,hq⟩
     ·rw[hf] at Aj;cases Aj
     ·have Dr:∀e∈es,Bk Wg e:=λe he=>bk_of_mute (Mf e he)
      have Ez:∀jx e,es[jx]? =some e->(MemAct.ofEvent e).touch? =none\/0<deafBehind dd (es.extract 0 jx):=λjx e he=> .inl (touch_mute (Mf e (Array.mem_of_getElem? he)))
      refine book (Ad w) (.refl Wg w) Ax Dr Ez (by omega) (.quit hq) rfl (by have:=A7.same (i:=k) 0 (deafBehind dd es);rwa [Ai] at this) (λe=>(Cf e).app λk' r hk' hr=> ?_) (.inr ⟨rfl,rfl⟩);by_cases e':k'=k
      ·subst e';exact hr.app (Go.ConcN.RelBy.book hr.by_ Xc _ _ Dr Ez) (λop A2 _=>Z4b Dr op A2)
      ·exact hr.app (hr.by_.appOther g_of_ofEvents (by omega)) (λop A2 hg=>by have:=g_of_ofEvents op A2;omega)
end
end
section
open Go.ConcN (ShN WgLive PayAt Has CTag RW upd upd_same upd_ne WD RelBy Vc Ssum cnt phi isOpen isW3 isFin OpenSt AllQuit pend sumTo sumTo_upd sumTo_upd_out Vc_upd Vc_le le_sumTo bk_cell deafBehind_idle norel_of_Bk allQuit_of bk_dis bk_en bk_rd bk_rw bk_sem)
open Go.ConcR (KK WgAt stA smA rd wr mk Payload DC0 g_of_ofEvents Bk ofEvent_loc_mark ofEvent_cell ofEvent_mk)
variable [Payload]
section
variable {Res:Nat->(Nat->Prop)->Value->World->Prop}{End AnchW:(Nat->Prop)->Goroutine->World->Prop}
 {gs:Array Goroutine} {w w':World} {sl:Option (Nat×Nat)} {j:Nat} {D:Nat->WD} {O Rk:Nat->Nat->Prop} {val:Nat->Value} {F:Nat->Tr} {q:Nat->Nat} {tag tag':CTag} {Giv o:Nat->Prop} {f0 f':Tr×Nat} {d0:Nat} {a a':Goroutine} {t:Trace} {st sm st' sm':Int} {es:Array Event}
theorem Z4W(hR:ResOk Res)(hN:0<N0)(ha:gs[0]? =some a)(A8:ComN P ty Wg C n Sb Res N0 j gs w t D O Rk val F q Giv o d0)(Al:stepG P true a w= .go a' w' es)(B1:w.heap.size<=w'.heap.size)
 (Et:∀k,k<j->RWo ty Wg C n k (Rk k) (O k) w w')(Bq:∀op∈MemOp.ofEvents 0 a.frame.fn a.frame.place es,ZdS (ShN Wg) (Zu Sb) (Z5P C O) (RdL Sb Rk) j op)(Cd:∀op∈MemOp.ofEvents 0 a.frame.fn a.frame.place es,op.act.low w'.heap.size)(F1:∀e∈es,e.loc≠.mark (.release (stA Wg)))(E7:PayAt C n w')
 (Dg:CS P ty Wg C n Sb Res End AnchW tag' j Giv (grow o w w') f' (deafBehind d0 es) a' w')(Ax:WgAt ty Wg w' st' sm')(A7:Go.ConcN.Mode j D tag' st' sm')(Cf:tag'= .ret->AcqN Wg N0 j (t++MemOp.ofEvents 0 a.frame.fn a.frame.place es))(A6:BaseN w0 G0 w' Giv)
 (A3:phi n (Vc j D) tag'<phi n (Vc j D) tag\/(phi n (Vc j D) tag'=phi n (Vc j D) tag/\ZdJ f' f0)):
 Z1y P ty Wg C n Sb Res End AnchW N0 w0 G0 ((phi n (Vc j D) tag+Ssum j D,N0+j,F),f0) (runT P (crowd gs w sl) 0) t:=by
 have Aj:=RH (P:=P) (sl:=sl) (i:=0) ha (by simpa using Al);refine⟨_,_,((phi n (Vc j D) tag'+Ssum j D,N0+j,F),f'),Aj,?_,_,w',sl,j,D,O,Rk,val,F,q,tag',Giv,grow o w w',f',deafBehind d0 es,a',st',sm',rfl,Go.ConcN.get_map_set_same _ _ _ (by rw[A8.size];omega),Dg,A8.step0 hR hN B1 Et Bq Cd F1 E7,Ax,A7,Cf,A6,rfl⟩;rcases A3 with h|⟨h1,h2⟩
 ·exact .inl (.inl (by show _+_<_+_;omega))
 ·rw[h1];exact .inr ⟨rfl,h2⟩
theorem Zdh(hg:GeoN Wg C Sb w j O Rk Giv o){fn:FuncId}{pos:String}(h:∀e∈es,EvMo Wg Sb Giv (grow o w w') e):∀op∈MemOp.ofEvents 0 fn pos es,ZdS (ShN Wg) (Zu Sb) (Z5P C O) (RdL Sb Rk) j op:=by
 intro op A2;obtain⟨e,he,rfl⟩:=XN A2;refine⟨rfl,λx hx=> ?_⟩;rcases(h e he).1 x hx with h1|⟨h1,h2,h3⟩
 ·exact .inl h1
 ·have hb:∀{S:Nat->Prop},LB S x.loc->∃b,S b/\(o b\/w.heap.size<=b):=λhs=>by
   obtain⟨b,B9,As⟩:=Z4V hs h1;exact⟨b,B9,As.imp id And.left⟩
  refine .inr ⟨λhs=> ?_,h2,λk hk ho=> ?_,λhw k hk hr=>h3 hw (Zcp hr.1 (hg.rdo k hk))⟩
  ·obtain⟨ad,e1,e2⟩:=hs;obtain⟨b,B9,As⟩:=hb (S:=λb=>b=Wg) (.inl ⟨ad,e1,e2⟩);subst B9;rcases As with As|As
   ·exact(hg.mo _ As).2.1 rfl
   ·have:=hg.hWg;omega
  ·rcases ho with ho|ho
   ·obtain⟨b,B9,As⟩:=hb ho;rcases As with As|As
    ·exact(hg.sep k hk b B9).2.2.2 As
    ·have:=(hg.sep k hk b B9).1;omega
   ·obtain⟨b,B9,As⟩:=hb (S:=λb=>b=C) (.inl ⟨_,ho,rfl⟩);subst B9;rcases As with As|As
    ·exact(hg.mo _ As).2.2 rfl
    ·have:=hg.hC;omega
theorem Z8q{fn:FuncId}(h:∀e∈es,Bk Wg e):∀op∈MemOp.ofEvents 0 fn pos es,ZdS (ShN Wg) (Zu Sb) (Z5P C O) (RdL Sb Rk) j op:=by
 intro op A2;obtain⟨e,he,rfl⟩:=XN A2;refine⟨rfl,λx hx=> ?_⟩;rcases h e he with h1|h1|⟨ad,wr,rfl,M7⟩
 ·simp only[ofEvent_loc_mark h1] at hx;cases hx
 ·simp only[ofEvent_loc_mark h1] at hx;cases hx
 ·simp only[ofEvent_cell,MemAct.touch?,XJ] at hx;subst hx;exact .inl ⟨⟨ad,rfl,M7⟩,by simp⟩
theorem Z2N(hR:ResOk Res)(hN:0<N0)(ha:gs[0]? =some a)(A8:ComN P ty Wg C n Sb Res N0 j gs w t D O Rk val F q Giv o d0)(Ax:WgAt ty Wg w st sm)(A7:Go.ConcN.Mode j D tag st sm)(Cf:tag= .ret->AcqN Wg N0 j t)(A6:BaseN w0 G0 w Giv)
 (Al:stepG P true a w= .go a' w' es)(hD:DMo Wg Sb Giv o w w' es)(Dg:CS P ty Wg C n Sb Res End AnchW tag j Giv (grow o w w') f' d0 a' w')(hf:ZdJ f' f0):
 Z1y P ty Wg C n Sb Res End AnchW N0 w0 G0 ((phi n (Vc j D) tag+Ssum j D,N0+j,F),f0) (runT P (crowd gs w sl) 0) t:=by
 have Xa:deafBehind d0 es=d0:=deafBehind_idle (λe he=>⟨(hD.evs e he).1.2.1,(hD.evs e he).1.2.2.1⟩) d0;have hg:=A8.geo
 exact Z4W hR hN ha A8 Al hD.size (λk hk=>RWo.of_main hg hk hD) (Zdh hg λe he=>(hD.evs e he).1) (λop A2=>by obtain⟨e,he,rfl⟩:=XN A2;exact(hD.evs e he).2) (λe he=>(hD.evs e he).1.2.2.2)
  (Z0s A8.pay (hD.stay C hg.hC (.inl λho=>(hg.mo _ ho).2.2 rfl))) (by rw[Xa];exact Dg) (Ax.of_block (hD.stay Wg hg.hWg (.inl λho=>(hg.mo _ ho).2.1 rfl))) A7
  (λe=>(Cf e).app λk r hk hr=>hr.app (hr.by_.appOther g_of_ofEvents (by omega)) (λop A2 hg=>by have:=g_of_ofEvents op A2;omega)) (A6.step (λb hb=>hD.stay b (hg.mo b (hg.giv b hb)).1 (.inr hb)) hD.tape hD.os hD.output hD.size (λ_ h=>h)) (.inr ⟨rfl,hf⟩)
theorem Z2O(hR:ResOk Res)(hN:0<N0)(ha:gs[0]? =some a)(A8:ComN P ty Wg C n Sb Res N0 j gs w t D O Rk val F q Giv o d0)(A6:BaseN w0 G0 w Giv)
 (Al:stepG P true a w= .go a' w' es)(Fp:Aside Wg w w')(Dq:WgAt ty Wg w' st' sm')(Dr:∀e∈es,Bk Wg e)(Dg:CS P ty Wg C n Sb Res End AnchW tag' j Giv o f' (deafBehind d0 es) a' w')
 (E8:Go.ConcN.Mode j D tag' st' sm')(A9:tag'≠.ret)(A3:phi n (Vc j D) tag'<phi n (Vc j D) tag\/(phi n (Vc j D) tag'=phi n (Vc j D) tag/\ZdJ f' f0)):
 Z1y P ty Wg C n Sb Res End AnchW N0 w0 G0 ((phi n (Vc j D) tag+Ssum j D,N0+j,F),f0) (runT P (crowd gs w sl) 0) t:=by
 have hg:=A8.geo;have hW:=hg.hWg
 exact Z4W hR hN ha A8 Al (TU Fp.size.symm) (λk hk=>RWo.of_wg hg hk Fp ⟨_,_,Dq⟩) (Z8q Dr) (Z5Q (by rw[Fp.size];exact hW) Dr) (norel_of_Bk Dr) (Z0s A8.pay (Fp.block C hg.hCW)) (by rw[Z0a Fp.size];exact Dg) Dq E8 (λe=>absurd e A9)
  (A6.step (λb hb=>Fp.block b (hg.mo b (hg.giv b hb)).2.1) Fp.tape Fp.os Fp.output (TU Fp.size.symm) (λ_ h=>h)) A3
theorem w1M(hR:ResOk Res)(hN:0<N0)(hn:n<2147483648)(ha:gs[0]? =some a)(A8:ComN P ty Wg C n Sb Res N0 n gs w t D O Rk val F q Giv o 1)(Ax:WgAt ty Wg w st sm)(A7:Go.ConcN.Mode n D .w1 st sm)(A6:BaseN w0 G0 w Giv){f:Tr}
 (h:GoT P true (RMo ty Wg C n) (DMo Wg Sb Giv) (MW1 P ty Wg C n Sb End AnchW Giv) f o a w):
 Z1y P ty Wg C n Sb Res End AnchW N0 w0 G0 ((phi n (Vc n D) .w1+Ssum n D,N0+n,F),(f,0)) (runT P (crowd gs w sl) 0) t:=by
 rcases GoT.cases (RMo.refl _ w) h with Ae|⟨r',a',w',es,A3,Al,hD,hg'⟩
 ·obtain⟨_,Aq⟩:=Ae w (.refl _ w);obtain⟨ho,rfl,rfl,_⟩:=A7.open_inv trivial;have hV:=Vc_le n D;obtain⟨a',Al,h0,A9⟩:=Aq (Vc n D) (by omega) (by simpa[pend] using Ax);by_cases hv:Vc n D=0
  ·obtain⟨r2,hk⟩:=h0 hv;refine Z2O hR hN ha A8 A6 Al (.refl Wg w) Ax bk_rd (tag':= .ke) (.ke hk) ?_ (by simp) (.inl (by simp only[phi];omega));have e:((Vc n D+pend .w1:Nat):Int)*KK=0:=by rw[hv];simp[pend]
   rw[e];exact .fin trivial (allQuit_of ho hv)
  ·obtain⟨r2,hk⟩:=A9 hv;exact Z2O hR hN ha A8 A6 Al (.refl Wg w) Ax bk_rd (tag':= .w2 (Vc n D)) (.w2 hk) (A7.reopen trivial trivial rfl (λvs e=>by cases e;omega)) (by simp) (.inl (by simp only[phi];omega))
 ·exact Z2N hR hN ha A8 Ax A7 (by simp) A6 Al hD (.w1 hg') (.inl A3)
theorem CS.bound(h:CS P ty Wg C n Sb Res End AnchW tag j Giv o f0 d0 a w):j+pend tag<=n:=by
 cases h<;>simp only[pend]<;>(try simp)<;>omega
def Z5R(P:Program)(Wg C n:Nat)(Sb:Nat->Prop)(Res:Nat->(Nat->Prop)->Value->World->Prop)(End:(Nat->Prop)->Goroutine->World->Prop)(w0:World)(G0:Nat->Prop)(m:Machine)(t:Trace):Prop:=
 ∃(gs:Array Goroutine)(w:World)(sl:Option (Nat×Nat))(a:Goroutine)(o:Nat->Prop)(O:Nat->Nat->Prop)(q:Nat->Nat),m=crowd gs w sl/\gs[0]? =some a/\End o a w/\(∀b,G0 b->o b)/\(∀k,k<n->∃v,Has C k v w/\Res k (O k) v w)/\(∀k,k<n->∀b,O k b->b<w.heap.size/\b≠Wg/\b≠C/\¬o b)/\
  (∀k k',k<n->k'<n->k≠k'->∀b,O k b->¬O k' b)/\PayAt C n w/\BaseN w0 G0 w (λ_=>True)/\Leavers P t gs q/\Past (Zu λb=>Sb b\/b=Wg) w.heap.size t/\∀op∈t,op.g<gs.size
theorem ZbB(hR:ResOk Res)(hN:0<N0)(hn:n<2147483648)(Oc:∀Giv o g w,AnchW o g w->∃r,GoT P true (RMo ty Wg C n) (DMo Wg Sb Giv) (MW1 P ty Wg C n Sb End AnchW Giv) r o g w)
 (ha:gs[0]? =some a)(Ag:CS P ty Wg C n Sb Res End AnchW tag j Giv o f0 d0 a w)(A8:ComN P ty Wg C n Sb Res N0 j gs w t D O Rk val F q Giv o d0)(A6:BaseN w0 G0 w Giv)(Ax:WgAt ty Wg w st sm)(A7:Go.ConcN.Mode j D tag st sm)(Cf:tag= .ret->AcqN Wg N0 j t)(Aj:a.status= .running)
 (Ln:∀f,tag= .ret->GoT P true (RMo ty Wg C n) (DMo Wg Sb Giv) End f o a w->¬∀w₁,RMo ty Wg C n o w w₁->End o a w₁):
 Z1y P ty Wg C n Sb Res End AnchW N0 w0 G0 ((phi n (Vc j D) tag+Ssum j D,N0+j,F),f0) (runT P (crowd gs w sl) 0) t:=by
 have hVj:=Vc_le j D;cases Ag with
 |skd hr h=>
  rcases GoT.cases (RMo.refl _ w) h with Ae|⟨r',a',w',es,A3,Al,hD,hg'⟩
  ·obtain⟨_,a',Al,r2,hk⟩:=Ae w (.refl _ w);exact Z2O hR hN ha A8 A6 Al (.refl Wg w) Ax bk_dis (.sa1 hr hk) (A7.reopen trivial trivial rfl (by simp)) (by simp) (.inl (by simp only[phi];omega))
  ·exact Z2N hR hN ha A8 Ax A7 (by simp) A6 Al hD (.skd hr hg') (.inl A3)
 |sa1 hr h=>
  rename_i r f;rcases GoT.cases (RMo.refl _ w) h with Ae|⟨r',a',w',es,A3,Al,hD,hg'⟩
  ·obtain⟨_,Aq⟩:=Ae w (.refl _ w);obtain⟨ho,rfl,rfl,_⟩:=A7.open_inv trivial;obtain⟨a',Al,r2,hk⟩:=Aq (Vc (n - (r+1)) D) (by omega) (by simpa[pend] using Ax);refine Z2O hR hN ha A8 A6 Al (TI w (stA Wg) _) (Ax.setSt _) bk_rw (.ske hr hk) ?_ (by simp) (.inl (by simp only[phi];omega));have e:(((Vc (n - (r+1)) D:Nat):Int)+1)*KK=((Vc (n - (r+1)) D+pend (.sp r 3):Nat):Int)*KK:=by simp[pend]
   rw[e];exact .opn trivial ho (by simp)
  ·exact Z2N hR hN ha A8 Ax A7 (by simp) A6 Al hD (.sa1 hr hg') (.inl A3)
 |ske hr h=>
  rcases GoT.cases (RMo.refl _ w) h with Ae|⟨r',a',w',es,A3,Al,hD,hg'⟩
  ·obtain⟨_,a',Al,r2,hk⟩:=Ae w (.refl _ w);exact Z2O hR hN ha A8 A6 Al (.refl Wg w) Ax bk_en (.sgo hr hk) (A7.reopen trivial trivial rfl (by simp)) (by simp) (.inl (by simp only[phi];omega))
  ·exact Z2N hR hN ha A8 Ax A7 (by simp) A6 Al hD (.ske hr hg') (.inl A3)
 |sgo hr h=>
  rename_i r f;rcases GoT.cases (RMo.refl _ w) h with Ae|⟨r',a',w',es,A3,Al,hD,hg'⟩
  ·obtain⟨_,a',child,D7,_,Xd,Mg⟩:=Ae w (.refl _ w);obtain⟨r2,Ve⟩:=Xd A8.pay;obtain⟨ho,rfl,rfl,_⟩:=A7.open_inv trivial;have G8:=runT_crowd_spawn (P:=P) (sl:=sl) (i:=0) ha (by simpa using D7);rw[A8.size] at G8;have Dj:=A8.spawn hN (a':=a') (x:={g:=0,fn:=a.frame.fn,pos:=a.frame.place,act:= .go (N0+(n - (r+1)))}) (y:={g:=N0+(n - (r+1)),fn:=child.frame.fn,pos:=a.frame.place,act:= .start}) ⟨rfl,rfl⟩ ⟨rfl,rfl⟩ Ve;have eV:Vc (n - (r+1)+1) (upd D (n - (r+1)) ⟨7,0,0⟩)=Vc (n - (r+1)) D+1:=by
    simp only[Vc,sumTo,VF];rw[sumTo_upd_out D _ cnt (XB _)];rfl
   have eS:Ssum (n - (r+1)+1) (upd D (n - (r+1)) ⟨7,0,0⟩)=Ssum (n - (r+1)) D+7:=by
    simp only[Ssum,sumTo,VF];rw[sumTo_upd_out D _ WD.stage (XB _)]
   have ho':OpenSt (n - (r+1)+1) (upd D (n - (r+1)) ⟨7,0,0⟩):=λi hi=>by
    by_cases e:i=n - (r+1)
    ·subst e;rw[VF];simp
    ·rw[upd_ne D _ e];exact ho i (by omega)
   have ha':((gs.setIfInBounds 0 a').push child)[0]? =some a':=by
    have h0:0<gs.size:=(by rw[A8.size];omega);rw[Array.getElem?_push,XA (by simp;omega),YM h0]
   have hb':BaseN w0 G0 w o:=A6.step (λ_ _=>rfl) rfl rfl rfl (XB _) A8.geo.giv;have ej:n - (r+1)+1=n - r:=by omega
   rw[ej] at Dj eV eS ho';have est:∀tag',pend tag'=0->((Vc (n - (r+1)) D+pend (.sp r 2):Nat):Int)*KK=((Vc (n - r) (upd D (n - (r+1)) ⟨7,0,0⟩)+pend tag':Nat):Int)*KK:=λtag' hp=>by rw[eV,hp];simp[pend]
   cases r with
   |zero=>
    obtain⟨r3,hk⟩:=Mg;simp only[Nat.sub_zero] at Dj eV eS ho' est
    refine⟨_,_,((phi n (Vc n (upd D (n - (0+1)) ⟨7,0,0⟩)) .kd+Ssum n (upd D (n - (0+1)) ⟨7,0,0⟩),N0+n,upd F (N0+(n - (0+1))) r2),(r3,0)),G8,.inl (.inl (by show _+_<_+_;simp only[phi];omega)),
     _,w,sl,n,_,_,_,val,_,q,.kd,o,o,(r3,0),0,a',_,_,rfl,ha',.kd hk,Dj,Ax,?_,by simp,hb',rfl⟩
    rw[est .kd rfl];exact .opn trivial ho' (by simp)
   |succ r'=>
    obtain⟨r3,hk⟩:=Mg
    refine⟨_,_,((phi n (Vc (n - (r'+1)) (upd D (n - (r'+1+1)) ⟨7,0,0⟩)) (.sp r' 5)+Ssum (n - (r'+1)) (upd D (n - (r'+1+1)) ⟨7,0,0⟩),N0+(n - (r'+1)),upd F (N0+(n - (r'+1+1))) r2),(r3,0)),G8,.inl (.inl (by show _+_<_+_;simp only[phi];omega)),
     _,w,sl,n - (r'+1),_,_,_,val,_,q,.sp r' 5,o,o,(r3,0),0,a',_,_,rfl,ha',.skd (by omega) hk,Dj,Ax,?_,by simp,hb',rfl⟩
    rw[est (.sp r' 5) rfl];exact .opn trivial ho' (by simp)
  ·exact Z2N hR hN ha A8 Ax A7 (by simp) A6 Al hD (.sgo hr hg') (.inl A3)
 |kd h=>
  rcases GoT.cases (RMo.refl _ w) h with Ae|⟨r',a',w',es,A3,Al,hD,hg'⟩
  ·obtain⟨_,a',Al,r2,hk⟩:=Ae w (.refl _ w);exact Z2O hR hN ha A8 A6 Al (.refl Wg w) Ax bk_dis (.anch hk) (A7.reopen trivial trivial rfl (by simp)) (by simp) (.inl (by simp only[phi];omega))
  ·exact Z2N hR hN ha A8 Ax A7 (by simp) A6 Al hD (.kd hg') (.inl A3)
 |anch h=>
  rcases GoT.cases (RMo.refl _ w) h with Ae|⟨r',a',w',es,A3,Al,hD,hg'⟩
  ·obtain⟨r2,hk⟩:=Oc Giv o a w (Ae w (.refl _ w));obtain⟨m₁,ops,μ',h1,h2,h3⟩:=w1M (sl:=sl) hR hN hn ha A8 Ax (A7.reopen trivial trivial rfl (by simp)) A6 hk;refine⟨m₁,ops,μ',h1,.inl ?_,h3⟩;rcases h2 with(h2|⟨h2,_⟩)|⟨h2,_⟩
   ·refine .inl ?_;simp only[phi] at h2⊢;show _<_+_;have:μ'.1.1<8*Vc n D+5+Ssum n D:=h2;omega
   ·refine .inl ?_;simp only[phi] at h2⊢;show _<_+_;have:μ'.1.1=8*Vc n D+5+Ssum n D:=h2;omega
   ·refine .inl ?_;simp only[phi] at h2⊢;show _<_+_;rw[h2];show 8*Vc n D+5+Ssum n D<_;omega
  ·exact Z2N hR hN ha A8 Ax A7 (by simp) A6 Al hD (.anch hg') (.inl A3)
 |w1 h=>exact w1M hR hN hn ha A8 Ax A7 A6 h
 |w2 h=>
  rename_i vs f;rcases GoT.cases (RMo.refl _ w) h with Ae|⟨r',a',w',es,A3,Al,hD,hg'⟩
  ·obtain⟨_,Aq⟩:=Ae w (.refl _ w);obtain⟨ho,rfl,rfl,Cp⟩:=A7.open_inv trivial;obtain⟨Bl,h1⟩:=Cp vs rfl;obtain⟨Xe,Ro⟩:=Aq (Vc n D) (by omega) (by simpa[pend] using Ax);by_cases e:Vc n D=vs
   ·obtain⟨a',Al,r2,hk⟩:=Xe e;exact Z2O hR hN ha A8 A6 Al (TI w (stA Wg) _) (Ax.setSt _) bk_rw (.w3 hk) (.reg trivial ho (by omega)) (by simp) (.inl (by simp only[phi];omega))
   ·obtain⟨a',Al,r2,hk⟩:=Ro e;exact Z2O hR hN ha A8 A6 Al (.refl Wg w) Ax bk_rd (.anch hk) (A7.reopen trivial trivial rfl (by simp)) (by simp) (.inl (by simp only[phi];omega))
  ·exact Z2N hR hN ha A8 Ax A7 (by simp) A6 Al hD (.w2 hg') (.inl A3)
 |w3 h=>
  rcases GoT.cases (RMo.refl _ w) h with Ae|⟨r',a',w',es,A3,Al,hD,hg'⟩
  ·obtain⟨_,Qu,J5,Jc⟩:=Ae w (.refl _ w);cases A7 with
   |opn h1 _ _=>exact h1.elim
   |reg h1 h2 h3=>exact Z2O hR hN ha A8 A6 (J5 ⟨_,Ax⟩) (.refl Wg w) Ax (by simp) (.blk Ae) (.reg trivial h2 h3) (by simp) (.inr ⟨rfl,.inr ⟨rfl,Nat.zero_lt_one⟩⟩)
   |last L h1 h2 h3 h4=>exact Z2O hR hN ha A8 A6 (J5 ⟨_,Ax⟩) (.refl Wg w) Ax (by simp) (.blk Ae) (.last L trivial h2 h3 h4) (by simp) (.inr ⟨rfl,.inr ⟨rfl,Nat.zero_lt_one⟩⟩)
   |sema h2=>
    obtain⟨a',Al,r2,hk⟩:=Jc Ax;exact Z2O hR hN ha A8 A6 Al (TI w (smA Wg) _) (Ax.setSm 0) bk_sem (.w4 hk) (.fin trivial h2) (by simp) (.inl (by simp only[phi];omega))
   |fin h1 _=>exact h1.elim
  ·exact Z2N hR hN ha A8 Ax A7 (by simp) A6 Al hD (.w3 hg') (.inl A3)
 |blk h=>simp at Aj
 |w4 h=>
  rcases GoT.cases (RMo.refl _ w) h with Ae|⟨r',a',w',es,A3,Al,hD,hg'⟩
  ·obtain⟨_,hx⟩:=Ae w (.refl _ w);obtain⟨hq,rfl,rfl⟩:=A7.fin_inv trivial;obtain⟨a',Al,r2,hk⟩:=hx Ax;exact Z2O hR hN ha A8 A6 Al (.refl Wg w) Ax bk_rd (.ke hk) (.fin trivial hq) (by simp) (.inl (by simp only[phi];omega))
  ·exact Z2N hR hN ha A8 Ax A7 (by simp) A6 Al hD (.w4 hg') (.inl A3)
 |ke h=>
  rcases GoT.cases (RMo.refl _ w) h with Ae|⟨r',a',w',es,A3,Al,hD,hg'⟩
  ·obtain⟨_,a',Al,r2,hk⟩:=Ae w (.refl _ w);obtain⟨hq,rfl,rfl⟩:=A7.fin_inv trivial;exact Z2O hR hN ha A8 A6 Al (.refl Wg w) Ax bk_en (.acq hk) (.fin trivial hq) (by simp) (.inl (by simp only[phi];omega))
  ·exact Z2N hR hN ha A8 Ax A7 (by simp) A6 Al hD (.ke hg') (.inl A3)
 |acq h=>
  rcases GoT.cases (RMo.refl _ w) h with Ae|⟨r',a',w',es,A3,Al,hD,hg'⟩
  ·obtain⟨_,a',Al,r2,hk⟩:=Ae w (.refl _ w);obtain⟨hq,rfl,rfl⟩:=A7.fin_inv trivial;have hW:=A8.geo.hWg;have Dy:grow o w w=o:=Z0a rfl;refine Z4W (tag':= .ret) hR hN ha A8 Al (XB _) (λk _=>RWo.refl _ w) (λop A2=> ?_) (λop A2=> ?_) (by intro e he;simp at he;subst he;simp[mk]) A8.pay (by rw[Dy];exact .ret hk) Ax (.fin trivial hq) (λ_=> ?_) A6 (.inl (by simp only[phi];omega))
   ·obtain⟨e,he,rfl⟩:=XN A2;simp at he;subst he;exact⟨rfl,λx hx=>by cases hx⟩
   ·obtain⟨e,he,rfl⟩:=XN A2;simp at he;subst he;exact hW
   have e1:MemOp.ofEvents 0 a.frame.fn a.frame.place #[mk (.acquire (stA Wg))]= #[{g:=0,fn:=a.frame.fn,pos:=a.frame.place,act:= .mark (.acquire (stA Wg))}]:=by rw[ofEvents_eq];simp[ofEvent_mk]
   have hy:(t++ #[({g:=0,fn:=a.frame.fn,pos:=a.frame.place,act:= .mark (.acquire (stA Wg))}:MemOp)])[t.size]? =some {g:=0,fn:=a.frame.fn,pos:=a.frame.place,act:= .mark (.acquire (stA Wg))}:=by simp
   refine⟨t.size,by rw[e1,act?_of hy],by rw[e1];simp[Trace.g?],by rw[e1];exact⟨0,by simp[Trace.g?],by rw[deaf_old (XB _)];exact A8.deaf0⟩,λk hk'=> ?_⟩;obtain⟨r,hr⟩:=A8.rel k hk' (by rw[hq k hk'];omega);exact⟨r,hr.app (hr.by_.appOther g_of_ofEvents (by omega)) (λop A2 hg=>by have:=g_of_ofEvents op A2;omega),lt_of_act? hr.by_.act⟩
  ·exact Z2N hR hN ha A8 Ax A7 (by simp) A6 Al hD (.acq hg') (.inl A3)
 |ret h=>
  rcases GoT.cases (RMo.refl _ w) h with Ae|⟨r',a',w',es,A3,Al,hD,hg'⟩
  ·exact absurd Ae (Ln _ rfl h)
  ·exact Z2N hR hN ha A8 Ax A7 Cf A6 Al hD (.ret hg') (.inl A3)
end
end
section
open Go.ConcN (ShN WgLive PayAt Has CTag RW upd upd_same upd_ne WD RelBy Vc Ssum cnt phi isOpen isW3 isFin OpenSt AllQuit pend exists_counted Deaf_absent)
open Go.ConcR (KK WgAt stA smA rd wr mk Payload DC0 g_of_ofEvents Bk)
variable [Payload]
section
variable {Res:Nat->(Nat->Prop)->Value->World->Prop}{End AnchW:(Nat->Prop)->Goroutine->World->Prop}
 {gs:Array Goroutine} {w w':World} {sl:Option (Nat×Nat)} {j:Nat} {D:Nat->WD} {O Rk:Nat->Nat->Prop} {val:Nat->Value} {F:Nat->Tr} {q:Nat->Nat} {tag tag':CTag} {Giv o:Nat->Prop} {f0 f':Tr×Nat} {d0:Nat} {a a':Goroutine} {t:Trace} {st sm st' sm':Int} {es:Array Event}
theorem ZbC(Dw:∀o g w,AnchW o g w->g.status= .running)(Br:∀o g w,End o g w->g.status= .running)(ha:gs[0]? =some a)(Ag:CS P ty Wg C n Sb Res End AnchW tag j Giv o f0 d0 a w)(A8:ComN P ty Wg C n Sb Res N0 j gs w t D O Rk val F q Giv o d0)(A7:Go.ConcN.Mode j D tag st sm):
 ∃(i:Nat)(g:Goroutine),gs[i]? =some g/\g.status= .running:=by
 rcases Ag.status Dw Br with⟨hs,_⟩|⟨_,rfl⟩
 ·exact⟨0,a,ha,hs⟩
 ·cases A7 with
  |opn h1 _ _=>exact h1.elim
  |reg _ _ h3=>
   obtain⟨i,hi,h5⟩:=exists_counted h3;obtain⟨g,hg,hs⟩:=A8.wk i hi;exact⟨N0+i,g,hg,hs.running_of (by omega)⟩
  |last L _ h2 h3 _=>
   obtain⟨g,hg,hs⟩:=A8.wk L h2;exact⟨N0+L,g,hg,hs.running_of (by omega)⟩
  |fin h1 _=>exact h1.elim
theorem ZbD(hN:0<N0)(Dw:∀o g w,AnchW o g w->g.status= .running)(Br:∀o g w,End o g w->g.status= .running)(ha:gs[0]? =some a)(Ag:CS P ty Wg C n Sb Res End AnchW tag j Giv o f0 d0 a w)(A8:ComN P ty Wg C n Sb Res N0 j gs w t D O Rk val F q Giv o d0):∀g∈gs,awake g:=by
 intro g hg tm;obtain⟨i,hi⟩:=Array.mem_iff_getElem?.1 hg;rcases TO i with rfl|D1
 ·rw[ha] at hi;cases hi;rcases Ag.status Dw Br with⟨hs,_⟩|⟨hs,_⟩<;>rw[hs]<;>simp
 ·rcases XY i N0 with A3|Fl
  ·obtain⟨x,hx,hq,_⟩:=A8.old i D1 A3;rw[hi] at hx;cases hx;rcases hq.status with h|h<;>rw[h]<;>simp
  ·obtain⟨k,rfl⟩:∃k,i=N0+k:=⟨i - N0,by omega⟩;have A3:k<j:=by have:=(YF.1 hi).1;rw[A8.size] at this;omega
   obtain⟨g',hg',hs⟩:=A8.wk k A3;rw[hi] at hg';cases hg';rcases hs.status with h|h<;>rw[h]<;>simp
theorem ZbE(hN:0<N0)(ha:gs[0]? =some a)(F0:End o a w)(A8:ComN P ty Wg C n Sb Res N0 n gs w t D O Rk val F q Giv o 0)(A6:BaseN w0 G0 w Giv)(Aq:AllQuit n D)(Cf:AcqN Wg N0 n t):
 Z5R P Wg C n Sb Res End w0 G0 (crowd gs w sl) t:=by
 have Rp:∀k,k<n->∃m g,gs[N0+k]? =some g/\QuitsD P m (Deaf t (N0+k)) g:=by
  intro k hk;obtain⟨g,hg,hs⟩:=A8.wk k hk;rw[Aq k hk] at hs;rw[A8.deafW k hk];generalize (D k).deaf=dd at hs⊢;generalize F (N0+k)=fu at hs;generalize hx:(1:Nat)=s at hs;cases hs with
  |work _=>omega
  | @late s m dd _ _ _ h6 h=>exact⟨m,g,hg,h.quits hx.symm⟩
 have Jd:∀i,N0<=i/\i<N0+n->∃m,∀g,gs[i]? =some g->QuitsD P m (Deaf t i) g:=by
  intro i hi;obtain⟨k,rfl⟩:∃k,i=N0+k:=⟨i - N0,by omega⟩;obtain⟨m,g,hg,hq⟩:=Rp k (by omega);exact⟨m,λg' hg'=>by rw[hg] at hg';cases hg';exact hq⟩
 classical
 obtain⟨qa,h1,h2,h3,h4⟩:=Cf;have known:∀i k,t.g? i=some (N0+k)->k<n->∀r,RelN (ShN Wg) (stA Wg) t (N0+k) r->r<qa->i<=r->HappensBefore t i qa:=by
  intro i k hg hk r hr O9 Bl;have edge:HappensBefore t r qa:= .single (.inr ⟨.marked O9 (.inr hr.by_.act) h1 (λk _ _=>A8.norel k),hr.by_.heard,h3⟩);rcases XY i r with A3|Fl
  ·exact .trans (.single (.inl ⟨A3,_,hg,hr.by_.g⟩)) edge
  ·obtain rfl:i=r:=by omega
   exact edge
 have who:∀i g,t.g? i=some g->g<N0+n:=by
  intro i g hg;obtain⟨op,ho,rfl⟩:=XT.1 hg;exact A8.tn.gs i op ho
 refine⟨gs,w,sl,a,o,O,λi=>if hk:N0<=i/\i<N0+n then(Jd i hk).choose else q i,rfl,ha,F0,λb hb=>A8.geo.giv b (A6.old b hb).1,λk hk=> ?_,λk hk b hb=>A8.geo.sep k hk b hb,A8.geo.sep2,A8.pay,⟨λb hb=>⟨trivial,(A6.old b hb).2⟩,A6.tape,A6.os,A6.output,A6.size⟩,⟨λi g hi hg=> ?_,λi hi=> ?_⟩,⟨A8.tn.nr,λi x hx hm=> ?_,λi g hg A9 hc=> ?_,A8.deaf0,A8.low⟩,λop A2=> ?_⟩
 ·obtain⟨hh,hr⟩:=A8.has k hk (by rw[Aq k hk];omega);exact⟨_,hh,hr⟩
 ·rcases XY i N0 with A3|Fl
  ·obtain⟨x,hx,hq,_⟩:=A8.old i hi A3;rw[hg] at hx;cases hx;simp only[dif_neg (show¬(N0<=i/\i<N0+n) by omega)];exact hq
  ·have hk:N0<=i/\i<N0+n:=⟨Fl,by have:=(YF.1 hg).1;rw[A8.size] at this;exact this⟩;simp only[dif_pos hk];exact(Jd i hk).choose_spec g hg
 ·exact Deaf_absent λx op hx e=>by have:=A8.tn.gs x op hx;rw[A8.size] at hi;omega
 ·obtain⟨op,A2,_⟩:=touch_of hx;have hg:=Z4F A2;rcases XY op.g N0 with A3|Fl
  ·rcases A8.oldk.known i x op.g hg A3 hx hm with h|⟨⟨ad,e1,e2⟩,h⟩
   ·exact .inl h
   ·exact .inr ⟨⟨ad,e1,.inl e2⟩,h⟩
  ·have hk:op.g - N0<n:=by have:=who i op.g hg;omega
   obtain⟨r,hr,O9⟩:=h4 (op.g - N0) hk;have hg':t.g? i=some (N0+(op.g - N0)):=by rw[hg];congr 1;omega
   rcases XY r i with A3|Bl
   ·obtain⟨⟨ad,e1,e2⟩,h⟩:=hr.late i x A3 hg' hx;exact .inr ⟨⟨ad,e1,.inr e2⟩,h⟩
   ·left
    obtain⟨z,hz,V6⟩:=XT.1 h2;exact⟨qa,z,hz,V6,.inr (known i _ hg' hk r hr O9 Bl)⟩
 ·rcases XY g N0 with A3|Fl
  ·exact A8.oldk.over i g hg A9 A3 hc
  ·have hk:g - N0<n:=by have:=who i g hg;omega
   obtain⟨r,hr,O9⟩:=h4 (g - N0) hk;have hg':t.g? i=some (N0+(g - N0)):=by rw[hg];congr 1;omega
   rcases XY r i with A3|Bl
   ·exact absurd hc (hr.by_.after i A3 hg')
   ·exact⟨qa,h2,known i _ hg' hk r hr O9 Bl⟩
 ·obtain⟨i,hi,rfl⟩:=Array.mem_iff_getElem.1 A2;have:=A8.tn.gs i _ (YN hi);rw[A8.size];exact this
theorem Z6H(hR:ResOk Res)(hN:0<N0)(hn:n<2147483648)(Dw:∀o g w,AnchW o g w->g.status= .running)(Br:∀o g w,End o g w->g.status= .running)
 (Oc:∀Giv o g w,AnchW o g w->∃r,GoT P true (RMo ty Wg C n) (DMo Wg Sb Giv) (MW1 P ty Wg C n Sb End AnchW Giv) r o g w)(μ:Mu)(m:Machine)(t:Trace)(h:InvN P ty Wg C n Sb Res End AnchW N0 w0 G0 μ m t):
 Z5R P Wg C n Sb Res End w0 G0 m t\/Z1y P ty Wg C n Sb Res End AnchW N0 w0 G0 μ (stepT P m) t:=by
 obtain⟨gs,w,sl,j,D,O,Rk,val,F,q,tag,Giv,o,f0,d0,a,st,sm,rfl,ha,Ag,A8,Ax,A7,Cf,A6,rfl⟩:=h;by_cases Ce:tag= .ret/\∃f,GoT P true (RMo ty Wg C n) (DMo Wg Sb Giv) End f o a w/\∀w₁,RMo ty Wg C n o w w₁->End o a w₁
 ·left
  obtain⟨rfl,f,_,Ae⟩:=Ce;obtain⟨hq,_,_⟩:=A7.fin_inv trivial;cases Ag with
  |ret h=>exact ZbE hN ha (Ae w (.refl _ w)) A8 A6 hq (Cf rfl)
 ·right
  obtain⟨i,g,d,sl',hg,Aj,Ad⟩:=crowd_pick (P:=P) (w:=w) (sl:=sl) (ZbD hN Dw Br ha Ag A8) (ZbC Dw Br ha Ag A8 A7);rw[Ad];have Dg:=Ag.rely (RMo.at w d);have Dj:=A8.at hR d;have H8:BaseN w0 G0 (w.at d) Giv:=⟨A6.old,A6.tape,A6.os,A6.output,A6.size⟩;have Dq:WgAt ty Wg (w.at d) st sm:=Ax;rcases TO i with rfl|D1
  ·rw[ha] at hg;cases hg;refine ZbB hR hN hn Oc ha Dg Dj H8 Dq A7 Cf Aj (λf e hf Ai=>Ce ⟨e,?_⟩);subst e;cases Ag with
   | @ret f1 _ _ _ _ h=>exact⟨f1,h,λw₁ hw=>Ai w₁ ⟨hw.own,hw.size,hw.live,hw.pay,hw.tape,hw.os,hw.output⟩⟩
  ·rcases XY i N0 with A3|Fl
   ·exact Z8p hR hN Dw Br ha Dg Dj H8 Dq A7 Cf D1 A3 hg Aj
   ·obtain⟨k,rfl⟩:∃k,i=N0+k:=⟨i - N0,by omega⟩;have A3:k<j:=(by have:=(YF.1 hg).1;rw[A8.size] at this;omega);exact Z9Z hR hN Dw Br hn Ag.bound ha Dg Dj H8 Dq A7 Cf A3 hg Aj
theorem Z6I(hR:ResOk Res)(hN:0<N0)(hn:n<2147483648)(Dw:∀o g w,AnchW o g w->g.status= .running)(Br:∀o g w,End o g w->g.status= .running)
 (Oc:∀Giv o g w,AnchW o g w->∃r,GoT P true (RMo ty Wg C n) (DMo Wg Sb Giv) (MW1 P ty Wg C n Sb End AnchW Giv) r o g w):∀(μ:Mu)(m:Machine)(t:Trace),InvN P ty Wg C n Sb Res End AnchW N0 w0 G0 μ m t->
 ∃N m' t',runNT P N m t=(.next m',t')/\Z5R P Wg C n Sb Res End w0 G0 m' t':=by
 intro μ
 induction muLt2_wf.apply μ with
 |intro μ _ ih=>
  intro m t h;rcases Z6H hR hN hn Dw Br Oc μ m t h with hf|⟨m₁,ops,μ',hs,A3,hi⟩
  ·exact⟨0,m,t,rfl,hf⟩
  ·obtain⟨N,m',t',hr,hf⟩:=ih μ' A3 m₁ (t++ops) hi;exact⟨N+1,m',t',by simp only[runNT,hs];exact hr,hf⟩
theorem Zea(hR:ResOk Res)(hn:n<2147483648)(Dw:∀o g w,AnchW o g w->g.status= .running)(Br:∀o g w,End o g w->g.status= .running)
 (Oc:∀Giv o g w,AnchW o g w->∃r,GoT P true (RMo ty Wg C n) (DMo Wg Sb Giv) (MW1 P ty Wg C n Sb End AnchW Giv) r o g w)
 {q:Nat->Nat}(ha:gs[0]? =some a)(hL:Leavers P t gs q){B:Nat}(hP:Past (Zu Sb) B t)(hB:B<=w.heap.size)(hBW:∀op∈t,∀x,op.act.touch? =some x->¬ShN Wg x.loc)(F1:NoRelease (stA Wg) t)
 (Ig:∀(i:Nat)(op:MemOp),t[i]? =some op->op.g<gs.size)(Ax:WgAt ty Wg w 0 0)(E7:PayAt C n w)(F9:GeoN Wg C Sb w 0 (λ_ _=>False) (λ_ _=>False) Giv o)(hG:∀b,G0 b->Giv b)(D7:SpawnsN P ty Wg C n Sb Res AnchW n Giv o a w)(Ni:∀b,G0 b->w.heap[b]? =w0.heap[b]?)(h1:w.tape=w0.tape)(h2:w.os=w0.os)(h3:w.output=w0.output)(h4:w0.heap.size<=w.heap.size):
 ∃N m' t',runNT P N (crowd gs w sl) t=(.next m',t')/\Z5R P Wg C n Sb Res End w0 G0 m' t':=by
 have I5:0<gs.size:=(YF.1 ha).1;have B6:OldK gs.size (Zu Sb) t:=⟨λi x g hg _ hx hm=>hP.known i x hx hm,λi g hg A9 _ hc=>hP.over i g hg A9 hc⟩
 have knows:∀l,l.isMemory=true->¬Zu Sb l->Perm t 0 l:=λl hm hn i x hx e=>by
  subst e;exact(hP.known i x hx hm).resolve_right λh=>hn h.1
 have A8:ComN P ty Wg C n Sb Res gs.size 0 gs w t (λ_=>⟨0,0,0⟩) (λ_ _=>False) (λ_ _=>False) (λ_=> .nilFunc) (λi=>Tr.ofNat (q i)) q Giv o 0:=by
  refine⟨rfl,λk hk=>by omega,λi Cj hi=> ?_,⟨λi op x hi hx hs=>absurd hs (hBW op (Array.mem_of_getElem? hi) x hx),λk hk=>by omega,λk hk=>by omega,λl hm _ hn _=>knows l hm hn,λl hm _ hn _=>Go.ConcN.PermW.of (knows l hm hn),hP.clean,λi op hi=>by have:=Ig i op hi;omega⟩,B6,F1,hP.hears,λk hk=>by omega,λk hk=>by omega,λk hk=>by omega,E7,λop A2=>MemAct.low_mono hB (hP.seen op A2),F9⟩;obtain⟨g,hg⟩:∃g,gs[i]? =some g:=⟨_,YN hi⟩;exact⟨g,hg,hL.old i g Cj hg,rfl⟩
 have A6:BaseN w0 G0 w Giv:=⟨λb hb=>⟨hG b hb,Ni b hb⟩,h1,h2,h3,h4⟩
 have A7:∀tag,isOpen tag->pend tag=0->(∀vs,tag≠.w2 vs)->Go.ConcN.Mode 0 (λ_=>(⟨0,0,0⟩:WD)) tag 0 0:=λtag h1 h2 h3=>by
  have:=Go.ConcN.Mode.opn (j:=0) (D:=λ_=>(⟨0,0,0⟩:WD)) h1 (λi hi=>by omega) (λvs e=>absurd e (h3 vs));simpa[Vc,Go.ConcN.sumTo,h2] using this
 have Xf:∃μ,InvN P ty Wg C n Sb Res End AnchW gs.size w0 G0 μ (crowd gs w sl) t:=by
  cases n with
  |zero=>
   obtain⟨r,hk⟩:=D7;exact⟨_,gs,w,sl,0,_,_,_,_,_,q,.kd,Giv,o,(r,0),0,a,0,0,rfl,ha,.kd hk,A8,Ax,A7 .kd trivial rfl (by simp),by simp,A6,rfl⟩
  |succ r=>
   obtain⟨f,hk⟩:=D7;have hc:=CS.skd (End:=End) (Nat.lt_succ_self r) hk;rw[Nat.sub_self] at hc;exact⟨_,gs,w,sl,0,_,_,_,_,_,q,.sp r 5,Giv,o,(f,0),0,a,0,0,rfl,ha,hc,A8,Ax,A7 (.sp r 5) trivial rfl (by simp),by simp,A6,rfl⟩
 obtain⟨μ,hI⟩:=Xf;exact Z6I hR I5 hn Dw Br Oc μ _ _ hI
end
end
end Go.Nk
namespace Go.Proofs.Tryv
open Go.Nk Go.RowKit Go.Conc.Lib Go.ConcR.Gen Go.ConcN.Gen
open Go.ConcN (ShN WgLive PayAt Has CTag)
open Go.ConcR (KK WgAt stA smA rd wr mk Payload DC0)
open Go.Proofs.Tryq (theBan Zh ZH link payload wgLib Grew Sh Z7)
attribute [local instance] theBan
attribute [local instance] payload
structure Mn(N n:Nat)(cc:Array Value)(sh:Nat->Obj->Prop)(o:Nat->Prop)(w:World):Prop where
 box:w.heap[N]? =some (.cells cc 132)
 out:w.heap[N+2]? =some (.cells #[.slice (some ⟨N+1,0,none⟩) n n] 134)
 live:WgLive link.tWg (N+3) w
 oN:o N
 oO:o (N+2)
 oC:¬o (N+1)
 oW:¬o (N+3)
 lt:∀b,o b->b<w.heap.size
 sz:N+3<w.heap.size
 sh:∀b ob,sh b ob->o b/\w.heap[b]? =some ob
section
variable {N:Nat}{sh:Nat->Obj->Prop}{o:Nat->Prop}{S:(Nat->Prop)->Goroutine->World->Prop}
theorem Mn.rely(h:Mn N n cc sh o w)(hr:RMo link.tWg (N+3) (N+1) n o w w₁):Mn N n cc sh o w₁:=
 ⟨(hr.own _ h.oN).trans h.box,(hr.own _ h.oO).trans h.out,hr.live h.live,h.oN,h.oO,h.oC,h.oW,λb hb=>YS (h.lt b hb) hr.size,YS h.sz hr.size,λb ob hb=>⟨(h.sh b ob hb).1,(hr.own _ (h.sh b ob hb).1).trans (h.sh b ob hb).2⟩⟩
theorem ZB{F:(Nat->Prop)->World->Prop}(hF:∀o w w₁,RMo link.tWg (N+3) (N+1) n o w w₁->F o w->F o w₁){g g':Goroutine}(hs:g.status= .running)(law:∀w,stepG Tryz.prog true g w= .go g' w #[])(h:F o w)
 (next:∀w₁,F o w₁->∃r,GoT Tryz.prog true (RMo link.tWg (N+3) (N+1) n) (DMo (N+3) Sb Giv) S r o g' w₁):∃r,GoT Tryz.prog true (RMo link.tWg (N+3) (N+1) n) (DMo (N+3) Sb Giv) S r o g w:=by
 refine GoT.step hs λw₁ hw=> ?_
 obtain⟨r,hr⟩:=next w₁ (hF _ _ _ hw h)
 exact⟨_,w₁,_,r,law w₁,⟨λ_ _ _=>rfl,XB _,rfl,rfl,rfl,λe he=>by simp at he⟩,by rw[Z0a rfl];exact hr⟩
variable {rest:List Nat}{m:Nat->Value}
theorem Z8r{F:(Nat->Prop)->World->Prop}(hF:∀o w w₁,RMo link.tWg (N+3) (N+1) n o w w₁->F o w->F o w₁){d:Nat}{v:Value}(hk:b.kind≠.early)(ho:ops[i]? =some oo)(hd:oo.dst=some d)(hg:oo.guard=none)
 (hr:∀x:World,(execOp (Zd 23 m) oo).run Tryz.prog x= .ok (.value v) x/\∀e∈(execOp (Zd 23 m) oo).events Tryz.prog x #[],False)(h:F o w)
 (next:∀w₁,F o w₁->∃r,GoT Tryz.prog true (RMo link.tWg (N+3) (N+1) n) (DMo (N+3) Sb Giv) S r o (G (b.at (ZD 23 (upM m d v) []) (.inRegion ops rest::k)) cs) w₁):
 ∃r,GoT Tryz.prog true (RMo link.tWg (N+3) (N+1) n) (DMo (N+3) Sb Giv) S r o (G (b.at (ZD 23 m []) (.inRegion ops (i::rest)::k)) cs) w:=by
 refine GoT.step rfl λw₁ hw=> ?_
 obtain⟨r,hn⟩:=next w₁ (hF _ _ _ hw h)
 obtain⟨h1,h2⟩:=hr w₁;have e:=stepG_value (main:=true) (b:=b) (k:=k) (cs:=cs) (rest:=rest) (a:=ZD 23 m []) ho (Z1L hg _) hk (by rw[actM_eval];exact h1);rw[hd,Z2x] at e;refine⟨_,w₁,_,r,e,⟨λ_ _ _=>rfl,XB _,rfl,rfl,rfl,λev Bb=> ?_⟩,by rw[Z0a rfl];exact hn⟩;have:=RB Bb;rw[actM_eval] at this;exact(h2 ev this).elim
end
theorem Z6J(N n:Nat)(cc:Array Value)(sh:Nat->Obj->Prop):∀o w w₁,RMo link.tWg (N+3) (N+1) n o w w₁->Mn N n cc sh o w->Mn N n cc sh o w₁:=λ_ _ _ hr h=>h.rely hr
def MnI(N n:Nat)(cc:Array Value)(sh:Nat->Obj->Prop)(Ik:Nat)(u:Int)(o:Nat->Prop)(w:World):Prop:=Mn N n cc sh o w/\o Ik/\w.heap[Ik]? =some (.cells #[u] 3)
theorem Z7A(N n:Nat)(cc:Array Value)(sh:Nat->Obj->Prop)(Ik:Nat)(u:Int):∀o w w₁,RMo link.tWg (N+3) (N+1) n o w w₁->MnI N n cc sh Ik u o w->MnI N n cc sh Ik u o w₁:=
 λ_ _ _ hr h=>⟨h.1.rely hr,h.2.1,(hr.own _ h.2.1).trans h.2.2⟩
section
variable {N:Nat}{sh:Nat->Obj->Prop}{o:Nat->Prop}{S:(Nat->Prop)->Goroutine->World->Prop}{rest:List Nat}{m:Nat->Value}
theorem Z2P(w:World)(ob:Obj):(w.alloc ob).heap=w.heap.push ob:=rfl
theorem Z5S{b:Nat}(h:b<w.heap.size):(w.alloc ob).heap[b]? =w.heap[b]? :=by
 rw[Z2P,Array.getElem?_push,XA (by omega)]
theorem Za0(w:World)(ob:Obj):(w.alloc ob).heap[w.heap.size]? =some ob:=by
 rw[Z2P,Array.getElem?_push,YZ rfl]
theorem Za1(hk:b.kind≠.early)(ho:ops[i]? =some oo)(hd:oo.dst=some 5)(hg:oo.guard=none)(A2:oo.op= .alloc 3)(h:Mn N n cc sh o w)
 (next:∀o' w₁ Ik,MnI N n cc sh Ik 0 o' w₁->w.heap.size<=Ik->(∀x,o x->o' x)->∃r,GoT Tryz.prog true (RMo link.tWg (N+3) (N+1) n) (DMo (N+3) Sb Giv) S r o' (G (b.at (ZD 23 (upM m 5 (.pointer (some ⟨Ik,0,none⟩))) []) (.inRegion ops rest::k)) cs) w₁):
 ∃r,GoT Tryz.prog true (RMo link.tWg (N+3) (N+1) n) (DMo (N+3) Sb Giv) S r o (G (b.at (ZD 23 m []) (.inRegion ops (i::rest)::k)) cs) w:=by
 refine GoT.step rfl λw₁ hw=> ?_
 have h1:=h.rely hw;obtain⟨e1,e2⟩:=Z6D (m:=m) (w:=w₁) (z:= #[.int .i64 0]) A2 (.inr (.inr ⟨rfl,rfl⟩));have e:=stepG_value (main:=true) (b:=b) (k:=k) (cs:=cs) (rest:=rest) (a:=ZD 23 m []) ho (Z1L hg _) hk (by rw[actM_eval];exact e1);rw[hd,Z2x] at e;have B1:(w₁.alloc (.cells #[.int .i64 0] 3)).heap.size=w₁.heap.size+1:=by rw[Z2P];simp
 have old:∀{x ob},w₁.heap[x]? =some ob->(w₁.alloc (.cells #[.int .i64 0] 3)).heap[x]? =some ob:=fun{x ob} hx=>(Z5S (YF.1 hx).1).trans hx
 have hM:Mn N n cc sh (grow o w₁ (w₁.alloc (.cells #[.int .i64 0] 3))) (w₁.alloc (.cells #[.int .i64 0] 3)):=by
  have hsz1:=h1.sz;refine⟨old h1.box,old h1.out,?_,.inl h1.oN,.inl h1.oO,?_,?_,λx hx=> ?_,by omega,λx ob hx=>⟨.inl (h1.sh x ob hx).1,old (h1.sh x ob hx).2⟩⟩
  ·obtain⟨x,y,hx⟩:=h1.live;exact⟨x,y,old hx⟩
  ·rintro(hx|⟨hx,_⟩)
   ·exact h1.oC hx
   ·omega
  ·rintro(hx|⟨hx,_⟩)
   ·exact h1.oW hx
   ·omega
  ·rcases hx with hx|⟨_,hx⟩
   ·have:=h1.lt x hx;omega
   ·exact hx
 obtain⟨r,hn⟩:=next _ (w₁.alloc (.cells #[.int .i64 0] 3)) w₁.heap.size ⟨hM,.inr ⟨XB _,by omega⟩,Za0 _ _⟩ hw.size (λx hx=> .inl hx)
 refine⟨_,_,_,r,e,⟨λx hx _=>Z5S hx,by omega,rfl,rfl,rfl,λev Bb=> ?_⟩,hn⟩;have:=RB Bb;rw[actM_eval] at this;exact(e2 ev this).elim
theorem Za2{j:Int}(hk:b.kind≠.early)(ho:ops[i]? =some oo)(hd:oo.dst=none)(hg:oo.guard=none)(A2:oo.op= .store 3 (.tmp 5) (.tmp 17))(h5:m 5= .pointer (some ⟨Ik,0,none⟩))(Vf:m 17= .int .i64 j)(h:MnI N n cc sh Ik u o w)
 (hI:¬Giv Ik)(Mh:¬Sb Ik)(Vg:Ik≠N/\Ik≠N+1/\Ik≠N+2/\Ik≠N+3/\∀b ob,sh b ob->b≠Ik)
 (next:∀w₁,MnI N n cc sh Ik j o w₁->∃r,GoT Tryz.prog true (RMo link.tWg (N+3) (N+1) n) (DMo (N+3) Sb Giv) S r o (G (b.at (ZD 23 m []) (.inRegion ops rest::k)) cs) w₁):
 ∃r,GoT Tryz.prog true (RMo link.tWg (N+3) (N+1) n) (DMo (N+3) Sb Giv) S r o (G (b.at (ZD 23 m []) (.inRegion ops (i::rest)::k)) cs) w:=by
 refine GoT.step rfl λw₁ hw=> ?_
 obtain⟨h1,Q2,Je⟩:=Z7A N n cc sh Ik u _ _ _ hw h;have hc:w₁.cell? ⟨Ik,0,none⟩=some (.int .i64 u):=by simp[World.cell?,Je]
 have hz:w₁.frozen? ⟨Ik,0,none⟩=false:=by simp[World.frozen?,Je]
 obtain⟨e1,e2⟩:=Z6E (m:=m) (w:=w₁) (a:=⟨Ik,0,none⟩) (v:= .int .i64 j) A2 (by decide) (by decide) h5 Vf (.inr ⟨rfl,_,rfl⟩) hc hz;have e:=stepG_none (main:=true) (b:=b) (k:=k) (cs:=cs) (rest:=rest) (a:=ZD 23 m []) ho (Z1L hg _) hk (by rw[actM_eval];exact e1);rw[hd] at e;have hA:=TI w₁ ⟨Ik,0,none⟩ (.int .i64 j);have hb:(w₁.setCell ⟨Ik,0,none⟩ (.int .i64 j)).heap[Ik]? =some (.cells #[j] 3):=by
  rw[QK w₁ Ik 0 #[u] _ (0,0) _ Je,setRow_heap w₁ Ik _ _ _ _ Je];rfl
 have hM:MnI N n cc sh Ik j o (w₁.setCell ⟨Ik,0,none⟩ (.int .i64 j)):=by
  refine⟨⟨(hA.block _ (SC Vg.1)).trans h1.box,(hA.block _ (SC Vg.2.2.1)).trans h1.out,?_,h1.oN,h1.oO,h1.oC,h1.oW,λx hx=>by rw[hA.size];exact h1.lt x hx,by rw[hA.size];exact h1.sz,λx ob hx=>⟨(h1.sh x ob hx).1,(hA.block _ (Vg.2.2.2.2 x ob hx)).trans (h1.sh x ob hx).2⟩⟩,Q2,hb⟩;obtain⟨x,y,hx⟩:=h1.live;exact⟨x,y,(hA.block _ (SC Vg.2.2.2.1)).trans hx⟩
 obtain⟨r,hn⟩:=next _ hM
 have Ig:grow o w₁ (w₁.setCell ⟨Ik,0,none⟩ (.int .i64 j))=o:=Z0a hA.size;refine⟨_,_,_,r,e,⟨λx hx Aw=>hA.block x λex=> ?_,TU hA.size.symm,hA.tape,hA.os,hA.output,λev Bb=> ?_⟩,by rw[Ig];exact hn⟩
 ·subst ex;exact Aw.elim (λh=>h Q2) hI
 ·have:=RB Bb;rw[actM_eval] at this;have he:=e2 ev this;subst he;refine⟨⟨λx hx=> ?_,by simp[Z0r]⟩,?_⟩
  ·simp only[SK,MemAct.touch?,XJ] at hx;subst hx;rw[Ig];refine .inr ⟨.inl ⟨_,rfl,Q2⟩,?_,λ_=> ?_⟩
   ·rintro⟨x,ex,hx⟩;cases ex;exact Mh hx
   ·rintro(⟨x,ex,hx⟩|⟨x,ex,hx⟩)
    ·cases ex;exact hI hx
    ·cases ex
  ·simp only[SK,MemAct.low];rw[hA.size];exact h1.lt _ Q2
end
noncomputable def kL:List Item:=[.inLoop L82,.inBlock 0,.code T82]
def Z8s(N Ik:Nat):Deferred:={target:= .fn (.func 139) #[.pointer (some ⟨N+3,0,none⟩),.pointer (some ⟨N,0,none⟩),.pointer (some ⟨Ik,0,none⟩),.pointer (some ⟨N+2,0,none⟩)],args:= #[]}
structure Hm(N n j:Nat)(m:Nat->Value):Prop where
 t1:m 1= .pointer (some ⟨N,0,none⟩)
 t3:m 3= .pointer (some ⟨N+2,0,none⟩)
 t4:m 4= .pointer (some ⟨N+3,0,none⟩)
 t14:m 14= .int .i64 n
 t15:m 15= .int .i64 j
theorem Hm.up{N:Nat}{m:Nat->Value}(h:Hm N n j m)(hd:d≠1/\d≠3/\d≠4/\d≠14/\d≠15):Hm N n j (upM m d v):=
 ⟨(XA hd.1).trans h.t1,(XA hd.2.1).trans h.t3,(XA hd.2.2.1).trans h.t4,(XA hd.2.2.2.1).trans h.t14,(XA hd.2.2.2.2).trans h.t15⟩
section
variable {o:Oper}{m:Nat->Value}
theorem Zdi(hf:P.funcs[f]? =some fn)(hn:(fn.name== "runtime.NumGoroutine")=false)(hb:fn.body.isNone=false)(args:Array Value)(w:World):(callFunc f args).events P w #[]= #[]:=by
 have hn':¬fn.name= "runtime.NumGoroutine" :=by simpa using hn
 have hb':¬fn.body=none:=λh=>by rw[h] at hb;cases hb
 simp[callFunc,hf,hn',hb',go_sem]
theorem Zcq{xs:Array Operand}{ats:Array TypeId}(hf:Tryz.prog.funcs[f]? =some fn)(hn:(fn.name== "runtime.NumGoroutine")=false)(hb:fn.body.isNone=false)(A2:o.op= .call {callee:= .value (.func f),args:=xs,argTypes:=ats})(hv:xs.map (Zd 23 m)=vs):
 (execOp (Zd 23 m) o).run Tryz.prog w= .ok (.enter f vs) w/\∀e∈(execOp (Zd 23 m) o).events Tryz.prog w #[],False:=by
 have ef:Zd 23 m (.func f)= .func (.func f) #[] #[]:=rfl;have hc:=Z7 hf hn hb vs w;have he':=Zdi hf hn hb vs w;unfold execOp;simp only[A2,resolve,hv,ef,Deferred.ofValue];constructor
 ·simpa[invoke,go_sem] using hc
 ·intro e he;simp[invoke,go_sem,he'] at he
theorem Zeb{N:Nat}(A2:o.op= .makeFunc (.func 139) #[] #[.tmp 4,.tmp 1,.tmp 5,.tmp 3])(h:Hm N n j m)(h5:m 5= .pointer (some ⟨Ik,0,none⟩)):
 (execOp (Zd 23 m) o).run Tryz.prog w= .ok (.value (.func (.func 139) #[] #[.pointer (some ⟨N+3,0,none⟩),.pointer (some ⟨N,0,none⟩),.pointer (some ⟨Ik,0,none⟩),.pointer (some ⟨N+2,0,none⟩)])) w/\∀e∈(execOp (Zd 23 m) o).events Tryz.prog w #[],False:=by
 have e1:Zd 23 m (.tmp 4)= .pointer (some ⟨N+3,0,none⟩):=h.t4;have e2:Zd 23 m (.tmp 1)= .pointer (some ⟨N,0,none⟩):=h.t1;have e3:Zd 23 m (.tmp 5)= .pointer (some ⟨Ik,0,none⟩):=h5;have e4:Zd 23 m (.tmp 3)= .pointer (some ⟨N+2,0,none⟩):=h.t3;unfold execOp;simp only[A2,TM,VC,VQ,e1,e2,e3,e4];constructor
 ·simp[go_sem,Instr.makeFunc]
 ·intro e he;simp[go_sem,Instr.makeFunc] at he
theorem r_go{N:Nat}(A2:o.op= .go {callee:= .value (.tmp 19),args:= #[],argTypes:= #[]})(h:m 19= .func (.func 139) #[] #[.pointer (some ⟨N+3,0,none⟩),.pointer (some ⟨N,0,none⟩),.pointer (some ⟨Ik,0,none⟩),.pointer (some ⟨N+2,0,none⟩)]):
 (execOp (Zd 23 m) o).run Tryz.prog w= .ok (.spawn (Z8s N Ik)) w/\(execOp (Zd 23 m) o).events Tryz.prog w #[]= #[]:=by
 have e1:Zd 23 m (.tmp 19)= .func (.func 139) #[] #[.pointer (some ⟨N+3,0,none⟩),.pointer (some ⟨N,0,none⟩),.pointer (some ⟨Ik,0,none⟩),.pointer (some ⟨N+2,0,none⟩)]:=h;unfold execOp;simp only[A2,resolve,e1,Deferred.ofValue];constructor
 ·simp[go_sem,Z8s]
 ·simp[go_sem]
end
end Go.Proofs.Tryv
