import Derived.Test.YthahddndgbpooaaGreatDoorNk10
set_option linter.all false
set_option maxRecDepth 10000
set_option maxHeartbeats 3200000
open Go Go.Conc
open Go.Value renaming pointer->I,int->NE
open Option renaming some->J,none->NB
open Go.Proofs.Tryz renaming prog->U
open Go renaming Goroutine->Z,World->NL,Value->NM,execOp->NU,FuncId->NS
open Bool renaming true->NC,false->ND
open Go.IntKind renaming i64->NF
open Go.Obj renaming cells->NH
variable {ops:Array Oper}{cc vs:Array NM}{b:Frame}{fn:Func}{f:NS}{u:Int}{cs:List Frame}{k:List Item}{C Ik N0 Wg d i j:Nat}{G0 Giv:Nat->Prop}{ob:Obj}{oo:Oper}{P:Program}{pos:String}{ty:TypeId}{v:NM}{w w0 w₁:NL}
namespace Go.Nk
section
open Go.ConcN (ShN WgLive PayAt Has CTag RW upd upd_same upd_ne WD RelBy Vc Ssum cnt phi isOpen isW3 isFin OpenSt AllQuit pend sumTo sumTo_upd Vc_upd Vc_le others_uncounted le_sumTo bk_cell deafBehind_idle norel_of_Bk)
open Go.ConcR (KK WgAt stA smA rd wr mk Payload DC0 g_of_ofEvents Bk ofEvent_loc_mark ofEvent_cell bk_of_mute)
variable [Payload]
section
variable {n:Nat}{Sb:Nat->Prop}{Res:Nat->(Nat->Prop)->NM->NL->Prop}{End AnchW:(Nat->Prop)->Z->NL->Prop}
 {gs:Array Z} {w w':NL} {sl:Option (Nat×Nat)} {j:Nat} {D:Nat->WD} {O Rk:Nat->Nat->Prop} {val:Nat->NM} {F:Nat->Tr} {q:Nat->Nat} {tag:CTag} {Giv o:Nat->Prop} {f0:Tr×Nat} {d0:Nat} {a:Z} {t:Trace} {st sm:Int}
def GoT.cases{a:Bool}{R:(Nat->Prop)->NL->NL->Prop}{z:(Nat->Prop)->NL->NL->Array Event->Prop}{c:(Nat->Prop)->Z->NL->Prop}{r:Tr}{o:Nat->Prop}{g:Z}{w:NL}(refl:R o w w)(h:GoT P a R z c r o g w):
 (∀w₁,R o w w₁->c o g w₁)\/∃B y p t,Tx B r/\stepG P a g w= .go y p t/\z o w p t/\GoT P a R z c B (grow o w p) y p:=by
 cases r with
 |leaf=>exact .inl h
 |node f=>
  rcases h with h|⟨_,h⟩
  .exact .inl h
  .obtain⟨y,p,t,e,d,x⟩:=goes_iff.1 (h w refl);exact .inr ⟨f w,y,p,t,⟨f,w,rfl,rfl⟩,e,d,x⟩
omit [Payload]in
def p9(m:Nat)(w:NL):Tx (Tr.ofNat m) (Tr.ofNat (m+1)):=⟨_,w,rfl,rfl⟩
def oB(hR:ResOk Res)(hN:0<N0)(F1:∀o g w,AnchW o g w->g.status= .running)(Bp:∀o g w,End o g w->g.status= .running)(hn:n<2147483648)(Rr:j+pend tag<=n)
 (X:gs[0]? =J a)(An:CS P ty Wg C n Sb Res End AnchW tag j Giv o f0 d0 a w)(W:ComN P ty Wg C n Sb Res N0 j gs w t D O Rk val F q Giv o d0)(A7:BaseN w0 G0 w Giv)(M:WgAt ty Wg w st sm)(A8:Go.ConcN.Mode j D tag st sm)(Ct:tag= .ret->AcqN Wg N0 j t)
 {k:Nat}(y:k<j){g:Z}(hg:gs[N0+k]? =J g)(Aj:g.status= .running):
 Ul P ty Wg C n Sb Res End AnchW N0 w0 G0 ((phi n (Vc j D) tag+Ssum j D,N0+j,F),f0) (runT P (crowd gs w sl) (N0+k)) t:=by
 obtain⟨g₁,a9,hs⟩:=W.wk k y;obtain rfl:g=g₁:=by rw[hg]at a9;exact YT a9
 generalize Al:(D k).stage=s at hs;generalize Qe:(D k).deaf=dd at hs;generalize hfu:F (N0+k)=fu at hs;generalize hva:val k=va at hs;generalize hOk:O k=Ok0 at hs;have b1:=Vc_le j D;have a5:Deaf t (N0+k)=dd:=by rw[W.deafW k y,Qe]
 have Qf:=W.geo.hWg;have nr:s≠1->tag≠.ret:=λh=>A8.not_ret y OA
 cases hs with
 |work h=>
  subst hOk;rcases GoT.cases (RWo.refl _ w) h with Ak|⟨r',z,Y,es,A5,p,hD,E⟩
  .obtain⟨v,B6,_,Ky,z,p,m₂,H9⟩:=Ak w (RWo.refl _ w)
   refine FY (v':=v) (Ok:=O k) (r':=Tr.ofNat m₂) hR hN F1 Bp X An W A7 y hg p (.refl _ w) (λ_ _ _=>RWo.refl _ w) (λ_ h=>h) (λ_ h=> .inl h) (.late OA (.k1 H9)) ?_ ?_ (by intro e c;simp at c;subst c;simp[mk]) (by rw[Qe];rfl) (λ_=>⟨t.size,?_⟩)
    (λ_=>⟨by simpa using Ky,B6⟩) M (λ_ ht _=>(A8.counted y OA (.inl rfl) _ _).retag ht) (λe=>absurd e (nr OA)) (.inl ⟨OA,by simp[cnt,Al]⟩)
   .intro op A4;obtain⟨e,c,rfl⟩:=XR A4;simp at c;subst c;exact⟨rfl,λx hx=>by cases hx⟩
   .intro op A4;obtain⟨e,c,rfl⟩:=XR A4;simp at c;subst c;exact Qf
   .refine⟨RelBy.new a5 _ _,λi x hi _ hx=> ?_⟩;obtain⟨op,A4,Pt⟩:=touch_of hx;rcases getElem?_append_cases A4 with⟨A5,_⟩|⟨_,Gh⟩
    .omega
    .obtain⟨e,c,rfl⟩:=XR Gh;simp at c;subst c;cases Pt
  .refine FY (v':=va) hR hN F1 Bp X An W A7 y hg p (RMo.of_work W.geo y hD) (λk' a4 Ab=>RWo.of_work W.geo y a4 Ab hD) (λb hb=> .inl hb) (λb hb=>hb) (.work E) (ku λe c=>(hD.evs e c).1)
    (λop A4=>by obtain⟨e,c,rfl⟩:=XR A4;exact(hD.evs e c).2) (λe c=>(hD.evs e c).1.2.2.2) (by rw[Qe];exact deafBehind_idle (λe c=>⟨(hD.evs e c).1.2.1,(hD.evs e c).1.2.2.1⟩) 0) (λh=>by omega) (λh=>by omega)
    (M.of_block (hD.stay Wg Qf (λho=>(W.geo.sep k y _ ho).2.1 rfl) (SJ W.geo.hCW))) (λ_ ht _=>Go.ConcN.Mode.retag (by have:=A8.same (i:=k) 0 0;rwa [Al]at this) ht) (λe=>absurd e (nr OA)) (.inr ⟨Al.symm,by rw[hfu];exact A5⟩)
 | @late s m d _ g w E6 hs=>
   subst hva;subst hOk
   have a3:∀{z:Z}{Y:NL}{es:Array Event}{s' V K:Nat}{a0 a1:Int},stepG P ND g w= .go z Y es->Aside Wg w Y->WgAt ty Wg Y a0 a1->(∀e∈es,Bk Wg e)->
    (∀jx e,es[jx]? =J e->(MemAct.ofEvent e).touch? =NB\/0<deafBehind dd (es.extract 0 jx))->s'<=6->Go.ConcN.WSit P ty Wg C n (λ_ _=>False) (λ_ _=>False) 0 (k+1) (val k) s' V K z Y->deafBehind dd es=K->
    (∀H,(H=tag\/(tag= .blk/\H= .w3))->(mayWake P g=NC->z.status= .running->H≠.blk)->Go.ConcN.Mode j (upd D k ⟨s',0,K⟩) H a0 a1)->(tag= .ret->AcqN Wg N0 j (t++MemOp.ofEvents (N0+k) g.frame.fn g.frame.place es))->((s'<s/\cnt ⟨s',0,K⟩<=cnt (D k))\/(s'=s/\V+1=m))->
    Ul P ty Wg C n Sb Res End AnchW N0 w0 G0 ((phi n (Vc j D) tag+Ssum j D,N0+j,F),f0) (runT P (crowd gs w sl) (N0+k)) t:=by
    intro z Y es s' V K a0 a1 p Hg Eu Ev hd h6 a2 Fq F8 Kz A5
    refine FY (v':=val k) (Ok:=O k) (r':=Tr.ofNat V) hR hN F1 Bp X An W A7 y hg p (RMo.of_wg W.geo Hg ⟨_,_,Eu⟩) (λk' a4 _=>RWo.of_wg W.geo a4 Hg ⟨_,_,Eu⟩) (λ_ h=>h) (λ_ h=> .inl h) (.late h6 a2) (iU Ev) (bU (by rw[Hg.size];exact Qf) Ev)
     (norel_of_Bk Ev) (by rw[Qe];exact Fq) (λ_=> ?_) (λ_=> ?_) Eu F8 Kz ?_
    .obtain⟨r,hr⟩:=W.rel k y OA;exact⟨r,hr.app (Go.ConcN.RelBy.book hr.by_ a5 _ _ Ev hd) (λop A4 _=>AS Ev op A4)⟩
    .obtain⟨h1,h2⟩:=W.has k y OA;exact⟨(EU (Hg.block C W.geo.hCW) k).trans h1,hR _ _ _ _ _ (λb hb=>Hg.block b (W.geo.sep k y b hb).2.1) h2⟩
    .rw[Al,hfu];exact A5.imp id fun⟨h1,h2⟩=>⟨h1,by subst h2;exact p9 V w⟩
   have B:∀{z:Z}{Y:NL}{es:Array Event}{s' V K:Nat}{a0 a1:Int},stepG P ND g w= .go z Y es->Aside Wg w Y->WgAt ty Wg Y a0 a1->(∀e∈es,Bk Wg e)->
    (∀jx e,es[jx]? =J e->(MemAct.ofEvent e).touch? =NB\/0<deafBehind dd (es.extract 0 jx))->s'<=6->Go.ConcN.WSit P ty Wg C n (λ_ _=>False) (λ_ _=>False) 0 (k+1) (val k) s' V K z Y->deafBehind dd es=K->
    Go.ConcN.Mode j (upd D k ⟨s',0,K⟩) tag a0 a1->(tag= .ret->AcqN Wg N0 j (t++MemOp.ofEvents (N0+k) g.frame.fn g.frame.place es))->((s'<s/\cnt ⟨s',0,K⟩<=cnt (D k))\/(s'=s/\V+1=m))->
    Ul P ty Wg C n Sb Res End AnchW N0 w0 G0 ((phi n (Vc j D) tag+Ssum j D,N0+j,F),f0) (runT P (crowd gs w sl) (N0+k)) t:=
    λp Hg Eu Ev hd h6 a2 Fq F8 Kz A5=>a3 p Hg Eu Ev hd h6 a2 Fq (λ_ ht _=>F8.retag ht) Kz A5
   have T:∀{z:Z}{V:Nat},stepG P ND g w= .go z w #[]->Go.ConcN.WSit P ty Wg C n (λ_ _=>False) (λ_ _=>False) 0 (k+1) (val k) s V dd z w->V+1=m->s≠1->
    Ul P ty Wg C n Sb Res End AnchW N0 w0 G0 ((phi n (Vc j D) tag+Ssum j D,N0+j,F),f0) (runT P (crowd gs w sl) (N0+k)) t:=by
    intro z V p a2 hm h1;exact B p (.refl Wg w) M OD OD E6 a2 rfl (by have:=A8.same (i:=k) 0 dd;rwa [Al]at this) (λe=>absurd e (A8.not_ret y OA)) (.inr ⟨rfl,hm⟩)
   cases hs with
   |r0 h=>omega
   |k1 h=>
    rcases QQ h with Ak|⟨V,rfl,Ah⟩
    .obtain⟨_,z,p,m₂,Ay⟩:=Ak w (RW.refl w)
     exact B p (.refl Wg w) M (by intro e c;simp at c;subst c;exact .inl rfl) (by intro jx e c;exact .inl (by have:=Array.mem_of_getElem? c;simp at this;subst this;rfl)) OA (.d1 Ay) rfl
      (A8.counted y OA (.inr rfl) _ _) (λe=>absurd e (nr OA)) (.inl ⟨OA,by simp[cnt,Al]⟩)
    .obtain⟨z,Y,es,p,⟨rfl,rfl⟩,E⟩:=Ah w (RW.refl w);exact T p (.k1 E) rfl OA
   |d1 h=>
    rcases QQ h with Ak|⟨V,rfl,Ah⟩
    .obtain⟨_,Au⟩:=Ak w (RW.refl w);have Ga:cnt (D k)=1:=(by simp[cnt,Al]);have To:1<=Vc j D:=(by have:=le_sumTo (f:=λx=>cnt (D x)) y;simp only[Vc];omega);have bk2:∀e∈#[rd (stA Wg),wr (stA Wg)],Bk Wg e:=(by intro e c;simp at c;rcases c with rfl|rfl<;>exact bk_cell _ _ rfl);have a6:∀jx e,(#[rd (stA Wg),wr (stA Wg)]:Array Event)[jx]? =J e->(MemAct.ofEvent e).touch? =NB\/0<deafBehind 1 ((#[rd (stA Wg),wr (stA Wg)]:Array Event).extract 0 jx):=by
      intro jx e c
      match jx,c with
      |0,_=>exact .inr (by simp[deafBehind])
      |1,_=>exact .inr (by simp[deafBehind,rd])
      |jx+2,c=>simp at c
     have Tj:cnt (⟨1,0,1⟩:WD)=0:=rfl
     have a8:OpenSt j D->OpenSt j (upd D k ⟨1,0,1⟩):=λh a X=>by
      by_cases e:a=k
      .subst e;rw[VK];simp
      .rw[upd_ne D _ e];exact h a X
     cases A8 with
     |opn h1 h2 h3=>
      obtain⟨v,hv⟩:∃v,Vc j D+pend tag=v+1:=⟨Vc j D+pend tag - 1,OA⟩;rw[hv]at M;have Fm:WgAt ty Wg w (((v:Nat)+1)*KK+((0:Nat):Int)) 0:=(by simpa using M);obtain⟨z,p,_,hq⟩:=Au v 0 OA OA Fm;obtain⟨qq,hq⟩:=hq OA;have a7:Vc j (upd D k ⟨1,0,1⟩)+pend tag=v:=(by have:=Vc_upd D (⟨1,0,1⟩:WD) y;omega);refine B p (TQ w (stA Wg) _) (M.setSt _) bk2 a6 OA (.quit hq) rfl ?_ (λe=>absurd e (nr OA)) (.inl ⟨OA,by simp[cnt]⟩);have e:((v:Nat):Int)*KK+((0:Nat):Int)=((Vc j (upd D k ⟨1,0,1⟩)+pend tag:Nat):Int)*KK:=(by rw[a7];simp);rw[e];exact .opn h1 (a8 h2) (λvs ev=>by have:=h3 vs ev;omega)
     |reg h1 h2 h3=>
      obtain⟨v,hv⟩:∃v,Vc j D=v+1:=⟨Vc j D - 1,OA⟩;rw[hv]at M;have hp:pend tag=0:=(by cases tag<;>first|rfl|exact h1.elim);have Fm:WgAt ty Wg w (((v:Nat)+1)*KK+((1:Nat):Int)) 0:=(by simpa using M);obtain⟨z,p,hl,hq⟩:=Au v 1 OA OA Fm;by_cases Tv:v=0
      .subst Tv;obtain⟨m₂,Ay⟩:=hl ⟨rfl,rfl⟩;refine B p (TQ w (stA Wg) _) (M.setSt _) bk2 a6 OA (.d2 Ay) rfl ?_ (λe=>absurd e (nr OA)) (.inl ⟨OA,by simp[cnt]⟩)
       have Gt:∀a,a<j->a≠k->(D a).stage=1:=λa X e=>by
        have c0:=others_uncounted y hv Ga a X e;have:=h2 a X;simp only[cnt]at c0;split at c0<;>omega
       have:=Go.ConcN.Mode.last (j:=j) (D:=upd D k ⟨4,0,1⟩) (tag:=tag) k h1 y (by rw[VK];simp) (λa X e=>by rw[upd_ne D _ e];exact Gt a X e);rw[VK]at this;simpa using this
      .obtain⟨qq,hq⟩:=hq OA;have a7:Vc j (upd D k ⟨1,0,1⟩)=v:=(by have:=Vc_upd D (⟨1,0,1⟩:WD) y;omega);refine B p (TQ w (stA Wg) _) (M.setSt _) bk2 a6 OA (.quit hq) rfl ?_ (λe=>absurd e (nr OA)) (.inl ⟨OA,by simp[cnt]⟩);have e:((v:Nat):Int)*KK+((1:Nat):Int)=((Vc j (upd D k ⟨1,0,1⟩):Nat):Int)*KK+1:=(by rw[a7];simp);rw[e];exact .reg h1 (a8 h2) OA
     |last L _ h2 h3 h4=>
      by_cases e:k=L
      .subst e;omega
      .have:=h4 k y e;omega
     |sema h2=>have:=h2 k y;omega
     |fin _ h2=>have:=h2 k y;omega
    .obtain⟨z,Y,es,p,⟨rfl,rfl⟩,E⟩:=Ah w (RW.refl w);exact T p (.d1 E) rfl OA
   |d2 h=>
    rcases QQ h with Ak|⟨V,rfl,Ah⟩
    .obtain⟨_,hx⟩:=Ak w (RW.refl w);obtain⟨Tx,Gt,rfl,rfl⟩:=A8.isLast y OA;simp only[Al]at M;obtain⟨z,p,m₂,Ay⟩:=hx (by simpa using M);refine B p (.refl Wg w) M (by intro e c;simp at c;subst c;exact bk_cell _ _ rfl) (by intro jx e c;match jx,c with|0,_=>exact .inr (by simp[deafBehind])|jx+1,c=>simp at c) OA (.d3 Ay) rfl ?_ (λe=>absurd e (nr OA)) (.inl ⟨OA,by simp[cnt]⟩);have:=Go.ConcN.Mode.last (j:=j) (D:=upd D k ⟨3,0,1⟩) (tag:=tag) k Tx y (by rw[VK];simp) (λa X e=>by rw[upd_ne D _ e];exact Gt a X e);rw[VK]at this;simpa using this
    .obtain⟨z,Y,es,p,⟨rfl,rfl⟩,E⟩:=Ah w (RW.refl w);exact T p (.d2 E) rfl OA
   |d3 h=>
    rcases QQ h with Ak|⟨V,rfl,Ah⟩
    .obtain⟨_,hx⟩:=Ak w (RW.refl w);obtain⟨Tx,Gt,rfl,rfl⟩:=A8.isLast y OA;simp only[Al]at M;obtain⟨z,p,m₂,Ay⟩:=hx (by simpa using M);refine B p (TQ w (stA Wg) _) (M.setSt 0) (by intro e c;simp at c;subst c;exact bk_cell _ _ rfl) (by intro jx e c;match jx,c with|0,_=>exact .inr (by simp[deafBehind])|jx+1,c=>simp at c) OA (.d4 Ay) rfl ?_ (λe=>absurd e (nr OA)) (.inl ⟨OA,by simp[cnt]⟩);have:=Go.ConcN.Mode.last (j:=j) (D:=upd D k ⟨2,0,1⟩) (tag:=tag) k Tx y (by rw[VK];simp) (λa X e=>by rw[upd_ne D _ e];exact Gt a X e);rw[VK]at this;simpa using this
    .obtain⟨z,Y,es,p,⟨rfl,rfl⟩,E⟩:=Ah w (RW.refl w);exact T p (.d3 E) rfl OA
   |d4 h=>
    rcases QQ h with Ak|⟨V,rfl,Ah⟩
    .obtain⟨_,hmw,hx⟩:=Ak w (RW.refl w);obtain⟨Tx,Gt,rfl,rfl⟩:=A8.isLast y OA;simp only[Al]at M;obtain⟨z,p,qq,hq⟩:=hx (by simpa using M);have Hv:z.status= .running:=by
      cases qq with|zero=>exact absurd hq.2 OC|succ qq=>exact hq.elim (λx=>absurd x.2 OC) (λx=>x.1)
     refine a3 p (TQ w (smA Wg) _) (M.setSm 1) (es:=semEvents (smA Wg)) Go.ConcN.bk_sem ?_ OA (.quit hq) (by simp[deafBehind,semEvents]) ?_ (λe=>absurd e (nr OA)) (.inl ⟨OA,by simp[cnt]⟩)
     .intro jx e c
      match jx,c with
      |0,c=>simp[semEvents]at c;subst c;exact .inl rfl
      |1,_=>exact .inr (by simp[deafBehind,semEvents])
      |2,_=>exact .inr (by simp[deafBehind,semEvents])
      |3,c=>simp[semEvents]at c;subst c;exact .inl rfl
      |jx+4,c=>simp[semEvents]at c
     .intro H ht hw;have b0:=hw hmw Hv;have e3:H= .w3:=by
       rcases ht with rfl|⟨_,rfl⟩
       .cases H<;>first|rfl|exact Tx.elim|exact absurd rfl b0
       .rfl
      subst e3;simp only[XY]
      exact .sema λa X=>by
       by_cases e:a=k
       .subst e;rw[VK]
       .rw[upd_ne D _ e];exact Gt a X e
    .obtain⟨z,Y,es,p,⟨rfl,rfl⟩,E⟩:=Ah w (RW.refl w);exact T p (.d4 E) rfl OA
   |quit h=>
    cases m with
    |zero=>rw[h.1]at Aj;cases Aj
    |succ qq=>
     rcases h with⟨hf,_⟩|⟨_,z,es,Oq,Ah,hq⟩
     .rw[hf]at Aj;cases Aj
     .have Ev:∀e∈es,Bk Wg e:=λe c=>bk_of_mute (Oq e c)
      have Co:∀jx e,es[jx]? =J e->(MemAct.ofEvent e).touch? =NB\/0<deafBehind dd (es.extract 0 jx):=λjx e c=> .inl (touch_mute (Oq e (Array.mem_of_getElem? c)))
      refine B (Ah w) (.refl Wg w) M Ev Co OA (.quit hq) rfl (by have:=A8.same (i:=k) 0 (deafBehind dd es);rwa [Al]at this) (λe=>(Ct e).app λk' r a4 hr=> ?_) (.inr ⟨rfl,rfl⟩);by_cases e':k'=k
      .subst e';exact hr.app (Go.ConcN.RelBy.book hr.by_ a5 _ _ Ev Co) (λop A4 _=>AS Ev op A4)
      .exact hr.app (hr.by_.appOther g_of_ofEvents OA) (λop A4 hg=>by have:=g_of_ofEvents op A4;omega)
end
end
section
open Go.ConcN (ShN WgLive PayAt Has CTag RW upd upd_same upd_ne WD RelBy Vc Ssum cnt phi isOpen isW3 isFin OpenSt AllQuit pend sumTo sumTo_upd sumTo_upd_out Vc_upd Vc_le le_sumTo bk_cell deafBehind_idle norel_of_Bk allQuit_of bk_dis bk_en bk_rd bk_rw bk_sem)
open Go.ConcR (KK WgAt stA smA rd wr mk Payload DC0 g_of_ofEvents Bk ofEvent_loc_mark ofEvent_cell ofEvent_mk)
variable [Payload]
section
variable {n:Nat}{Sb:Nat->Prop}{Res:Nat->(Nat->Prop)->NM->NL->Prop}{End AnchW:(Nat->Prop)->Z->NL->Prop}
 {gs:Array Z} {w w':NL} {sl:Option (Nat×Nat)} {j:Nat} {D:Nat->WD} {O Rk:Nat->Nat->Prop} {val:Nat->NM} {F:Nat->Tr} {q:Nat->Nat} {tag tag':CTag} {Giv o:Nat->Prop} {f0 f':Tr×Nat} {d0:Nat} {a a':Z} {t:Trace} {st sm st' sm':Int} {es:Array Event}
def GQ(Y:ResOk Res)(V:0<N0)(X:gs[0]? =J a)(c:ComN P ty Wg C n Sb Res N0 j gs w t D O Rk val F q Giv o d0)(W:stepG P NC a w= .go a' w' es)(Ba:w.heap.size<=w'.heap.size)
 (Fu:∀k,k<j->RWo ty Wg C n k (Rk k) (O k) w w')(E:∀op∈MemOp.ofEvents 0 a.frame.fn a.frame.place es,Jw (ShN Wg) (Zu Sb) (WG C O) (RdL Sb Rk) j op)(T:∀op∈MemOp.ofEvents 0 a.frame.fn a.frame.place es,op.act.low w'.heap.size)(K:∀e∈es,e.loc≠.mark (.release (stA Wg)))(M:PayAt C n w')
 (x:CS P ty Wg C n Sb Res End AnchW tag' j Giv (grow o w w') f' (deafBehind d0 es) a' w')(H:WgAt ty Wg w' st' sm')(L:Go.ConcN.Mode j D tag' st' sm')(p:tag'= .ret->AcqN Wg N0 j (t++MemOp.ofEvents 0 a.frame.fn a.frame.place es))(z:BaseN w0 G0 w' Giv)
 (B:phi n (Vc j D) tag'<phi n (Vc j D) tag\/(phi n (Vc j D) tag'=phi n (Vc j D) tag/\MC f' f0)):
 Ul P ty Wg C n Sb Res End AnchW N0 w0 G0 ((phi n (Vc j D) tag+Ssum j D,N0+j,F),f0) (runT P (crowd gs w sl) 0) t:=by
 have Aj:=RY (P:=P) (sl:=sl) (i:=0) X (by simpa using W);refine⟨_,_,((phi n (Vc j D) tag'+Ssum j D,N0+j,F),f'),Aj,?_,_,w',sl,j,D,O,Rk,val,F,q,tag',Giv,grow o w w',f',deafBehind d0 es,a',st',sm',rfl,Go.ConcN.get_map_set_same _ _ _ (by rw[c.size];omega),x,c.step0 Y V Ba Fu E T K M,H,L,p,z,rfl⟩;rcases B with h|⟨y,g⟩
 .exact .inl (.inl (by show _+_<_+_;omega))
 .rw[y];exact .inr ⟨rfl,g⟩
def jl(c:GeoN Wg C Sb w j O Rk Giv o){fn:NS}{pos:String}(h:∀e∈es,EvMo Wg Sb Giv (grow o w w') e):∀op∈MemOp.ofEvents 0 fn pos es,Jw (ShN Wg) (Zu Sb) (WG C O) (RdL Sb Rk) j op:=by
 intro op y;obtain⟨e,B,rfl⟩:=XR y;refine⟨rfl,λx K=> ?_⟩;rcases(h e B).1 x K with p|⟨p,E,H⟩
 .exact .inl p
 .have hb:∀{S:Nat->Prop},LB S x.loc->∃b,S b/\(o b\/w.heap.size<=b):=λt=>by
   obtain⟨b,a,Aw⟩:=rA t p;exact⟨b,a,Aw.imp id And.left⟩
  refine .inr ⟨λt=> ?_,E,λk g ho=> ?_,λz k g F=>H z (bK F.1 (c.rdo k g))⟩
  .obtain⟨ad,e1,e2⟩:=t;obtain⟨b,a,Aw⟩:=hb (S:=λb=>b=Wg) (.inl ⟨ad,e1,e2⟩);subst a;rcases Aw with Aw|Aw
   .exact(c.mo _ Aw).2.1 rfl
   .have:=c.hWg;omega
  .rcases ho with ho|ho
   .obtain⟨b,a,Aw⟩:=hb ho;rcases Aw with Aw|Aw
    .exact(c.sep k g b a).2.2.2 Aw
    .have:=(c.sep k g b a).1;omega
   .obtain⟨b,a,Aw⟩:=hb (S:=λb=>b=C) (.inl ⟨_,ho,rfl⟩);subst a;rcases Aw with Aw|Aw
    .exact(c.mo _ Aw).2.2 rfl
    .have:=c.hC;omega
def jq{fn:NS}(h:∀e∈es,Bk Wg e):∀op∈MemOp.ofEvents 0 fn pos es,Jw (ShN Wg) (Zu Sb) (WG C O) (RdL Sb Rk) j op:=by
 intro op c;obtain⟨e,g,rfl⟩:=XR c;refine⟨rfl,λx a=> ?_⟩;rcases h e g with h1|h1|⟨t,wr,rfl,p⟩
 .simp only[ofEvent_loc_mark h1]at a;cases a
 .simp only[ofEvent_loc_mark h1]at a;cases a
 .simp only[ofEvent_cell,MemAct.touch?,XM]at a;subst a;exact .inl ⟨⟨t,rfl,p⟩,OD⟩
def Vp(W:ResOk Res)(X:0<N0)(T:gs[0]? =J a)(p:ComN P ty Wg C n Sb Res N0 j gs w t D O Rk val F q Giv o d0)(K:WgAt ty Wg w st sm)(M:Go.ConcN.Mode j D tag st sm)(B:tag= .ret->AcqN Wg N0 j t)(H:BaseN w0 G0 w Giv)
 (V:stepG P NC a w= .go a' w' es)(c:DMo Wg Sb Giv o w w' es)(E:CS P ty Wg C n Sb Res End AnchW tag j Giv (grow o w w') f' d0 a' w')(L:MC f' f0):
 Ul P ty Wg C n Sb Res End AnchW N0 w0 G0 ((phi n (Vc j D) tag+Ssum j D,N0+j,F),f0) (runT P (crowd gs w sl) 0) t:=by
 have x:deafBehind d0 es=d0:=deafBehind_idle (λe h=>⟨(c.evs e h).1.2.1,(c.evs e h).1.2.2.1⟩) d0;have g:=p.geo
 exact GQ W X T p V c.size (λk z=>RWo.of_main g z c) (jl g λe h=>(c.evs e h).1) (λop y=>by obtain⟨e,h,rfl⟩:=XR y;exact(c.evs e h).2) (λe h=>(c.evs e h).1.2.2.2)
  (LW p.pay (c.stay C g.hC (.inl λh=>(g.mo _ h).2.2 rfl))) (by rw[x];exact E) (K.of_block (c.stay Wg g.hWg (.inl λh=>(g.mo _ h).2.1 rfl))) M
  (λe=>(B e).app λk r z e=>e.app (e.by_.appOther g_of_ofEvents OA) (λop y g=>by have:=g_of_ofEvents op y;omega)) (H.step (λb e=>c.stay b (g.mo b (g.giv b e)).1 (.inr e)) c.tape c.os c.output c.size (λ_ h=>h)) (.inr ⟨rfl,L⟩)
def Vo(W:ResOk Res)(L:0<N0)(V:gs[0]? =J a)(p:ComN P ty Wg C n Sb Res N0 j gs w t D O Rk val F q Giv o d0)(H:BaseN w0 G0 w Giv)
 (T:stepG P NC a w= .go a' w' es)(c:Aside Wg w w')(y:WgAt ty Wg w' st' sm')(x:∀e∈es,Bk Wg e)(E:CS P ty Wg C n Sb Res End AnchW tag' j Giv o f' (deafBehind d0 es) a' w')
 (M:Go.ConcN.Mode j D tag' st' sm')(z:tag'≠.ret)(K:phi n (Vc j D) tag'<phi n (Vc j D) tag\/(phi n (Vc j D) tag'=phi n (Vc j D) tag/\MC f' f0)):
 Ul P ty Wg C n Sb Res End AnchW N0 w0 G0 ((phi n (Vc j D) tag+Ssum j D,N0+j,F),f0) (runT P (crowd gs w sl) 0) t:=by
 have g:=p.geo;have h:=g.hWg
 exact GQ W L V p T (SH c.size.symm) (λk B=>RWo.of_wg g B c ⟨_,_,y⟩) (jq x) (bU (by rw[c.size];exact h) x) (norel_of_Bk x) (LW p.pay (c.block C g.hCW)) (by rw[WI c.size];exact E) y M (λe=>absurd e z)
  (H.step (λb e=>c.block b (g.mo b (g.giv b e)).2.1) c.tape c.os c.output (SH c.size.symm) (λ_ h=>h)) K
def w1M(K:ResOk Res)(E:0<N0)(hn:n<2147483648)(H:gs[0]? =J a)(x:ComN P ty Wg C n Sb Res N0 n gs w t D O Rk val F q Giv o 1)(c:WgAt ty Wg w st sm)(B:Go.ConcN.Mode n D .w1 st sm)(z:BaseN w0 G0 w Giv){f:Tr}
 (h:GoT P NC (RMo ty Wg C n) (DMo Wg Sb Giv) (MW1 P ty Wg C n Sb End AnchW Giv) f o a w):
 Ul P ty Wg C n Sb Res End AnchW N0 w0 G0 ((phi n (Vc n D) .w1+Ssum n D,N0+n,F),(f,0)) (runT P (crowd gs w sl) 0) t:=by
 rcases GoT.cases (RMo.refl _ w) h with M|⟨_,W,_,_,X,g,T,y⟩
 .obtain⟨_,Au⟩:=M w (.refl _ w);obtain⟨Y,rfl,rfl,_⟩:=B.open_inv trivial;have hV:=Vc_le n D;obtain⟨W,g,L,V⟩:=Au (Vc n D) OA (by simpa[pend]using c);by_cases p:Vc n D=0
  .obtain⟨r2,hk⟩:=L p;refine Vo K E H x z g (.refl Wg w) c bk_rd (tag':= .ke) (.ke hk) ?_ OD (.inl (by simp only[phi];omega));have e:((Vc n D+pend .w1:Nat):Int)*KK=0:=by rw[p];simp[pend]
   rw[e];exact .fin trivial (allQuit_of Y p)
  .obtain⟨r2,hk⟩:=V p;exact Vo K E H x z g (.refl Wg w) c bk_rd (tag':= .w2 (Vc n D)) (.w2 hk) (B.reopen trivial trivial rfl (λvs e=>by cases e;omega)) OD (.inl (by simp only[phi];omega))
 .exact Vp K E H x c B OD z g T (.w1 y) (.inl X)
def CS.bound(h:CS P ty Wg C n Sb Res End AnchW tag j Giv o f0 d0 a w):j+pend tag<=n:=by
 cases h<;>simp only[pend]<;>(try simp)<;>omega
def KU(P:Program)(Wg C n:Nat)(Sb:Nat->Prop)(Res:Nat->(Nat->Prop)->NM->NL->Prop)(End:(Nat->Prop)->Z->NL->Prop)(w0:NL)(G0:Nat->Prop)(m:Machine)(t:Trace):Prop:=
 ∃(c:Array Z)(w:NL)(e:Option (Nat×Nat))(a:Z)(o:Nat->Prop)(O:Nat->Nat->Prop)(q:Nat->Nat),m=crowd c w e/\c[0]? =J a/\End o a w/\(∀b,G0 b->o b)/\(∀k,k<n->∃v,Has C k v w/\Res k (O k) v w)/\(∀k,k<n->∀b,O k b->b<w.heap.size/\b≠Wg/\b≠C/\¬o b)/\
  (∀k a,k<n->a<n->k≠a->∀b,O k b->¬O a b)/\PayAt C n w/\BaseN w0 G0 w (λ_=>True)/\Leavers P t c q/\Past (Zu λb=>Sb b\/b=Wg) w.heap.size t/\∀op∈t,op.g<c.size
def fy(M:ResOk Res)(H:0<N0)(hn:n<2147483648)(Qg:∀Giv o g w,AnchW o g w->∃r,GoT P NC (RMo ty Wg C n) (DMo Wg Sb Giv) (MW1 P ty Wg C n Sb End AnchW Giv) r o g w)
 (K:gs[0]? =J a)(An:CS P ty Wg C n Sb Res End AnchW tag j Giv o f0 d0 a w)(z:ComN P ty Wg C n Sb Res N0 j gs w t D O Rk val F q Giv o d0)(E:BaseN w0 G0 w Giv)(B:WgAt ty Wg w st sm)(W:Go.ConcN.Mode j D tag st sm)(Ct:tag= .ret->AcqN Wg N0 j t)(Aj:a.status= .running)
 (Nn:∀f,tag= .ret->GoT P NC (RMo ty Wg C n) (DMo Wg Sb Giv) End f o a w->¬∀w₁,RMo ty Wg C n o w w₁->End o a w₁):
 Ul P ty Wg C n Sb Res End AnchW N0 w0 G0 ((phi n (Vc j D) tag+Ssum j D,N0+j,F),f0) (runT P (crowd gs w sl) 0) t:=by
 have a6:=Vc_le j D;cases An with
 |skd hr h=>
  rcases GoT.cases (RMo.refl _ w) h with T|⟨r',a',w',es,Y,p,X,c⟩
  .obtain⟨_,a',p,r2,V⟩:=T w (.refl _ w);exact Vo M H K z E p (.refl Wg w) B bk_dis (.sa1 hr V) (W.reopen trivial trivial rfl OD) OD (.inl (by simp only[phi];omega))
  .exact Vp M H K z B W OD E p X (.skd hr c) (.inl Y)
 |sa1 hr h=>
  rename_i r f;rcases GoT.cases (RMo.refl _ w) h with T|⟨r',a',w',es,Y,p,X,c⟩
  .obtain⟨_,Au⟩:=T w (.refl _ w);obtain⟨ho,rfl,rfl,_⟩:=W.open_inv trivial;obtain⟨a',p,r2,V⟩:=Au (Vc (n - (r+1)) D) OA (by simpa[pend]using B);refine Vo M H K z E p (TQ w (stA Wg) _) (B.setSt _) bk_rw (.ske hr V) ?_ OD (.inl (by simp only[phi];omega));have e:(((Vc (n - (r+1)) D:Nat):Int)+1)*KK=((Vc (n - (r+1)) D+pend (.sp r 3):Nat):Int)*KK:=by simp[pend]
   rw[e];exact .opn trivial ho OD
  .exact Vp M H K z B W OD E p X (.sa1 hr c) (.inl Y)
 |ske hr h=>
  rcases GoT.cases (RMo.refl _ w) h with T|⟨r',a',w',es,Y,p,X,c⟩
  .obtain⟨_,a',p,r2,V⟩:=T w (.refl _ w);exact Vo M H K z E p (.refl Wg w) B bk_en (.sgo hr V) (W.reopen trivial trivial rfl OD) OD (.inl (by simp only[phi];omega))
  .exact Vp M H K z B W OD E p X (.ske hr c) (.inl Y)
 |sgo hr h=>
  rename_i r f;rcases GoT.cases (RMo.refl _ w) h with T|⟨r',a',w',es,Y,p,X,c⟩
  .obtain⟨_,a',child,Dt,_,hwk0,Or⟩:=T w (.refl _ w);obtain⟨r2,Xl⟩:=hwk0 z.pay;obtain⟨ho,rfl,rfl,_⟩:=W.open_inv trivial;have Hv:=runT_crowd_spawn (P:=P) (sl:=sl) (i:=0) K (by simpa using Dt);rw[z.size]at Hv;have Ek:=z.spawn H (a':=a') (x:={g:=0,fn:=a.frame.fn,pos:=a.frame.place,act:= .go (N0+(n - (r+1)))}) (y:={g:=N0+(n - (r+1)),fn:=child.frame.fn,pos:=a.frame.place,act:= .start}) ⟨rfl,rfl⟩ ⟨rfl,rfl⟩ Xl;have eV:Vc (n - (r+1)+1) (upd D (n - (r+1)) ⟨7,0,0⟩)=Vc (n - (r+1)) D+1:=by
    simp only[Vc,sumTo,VK];rw[sumTo_upd_out D _ cnt (XA _)];rfl
   have eS:Ssum (n - (r+1)+1) (upd D (n - (r+1)) ⟨7,0,0⟩)=Ssum (n - (r+1)) D+7:=by
    simp only[Ssum,sumTo,VK];rw[sumTo_upd_out D _ WD.stage (XA _)]
   have a0:OpenSt (n - (r+1)+1) (upd D (n - (r+1)) ⟨7,0,0⟩):=λi hi=>by
    by_cases e:i=n - (r+1)
    .subst e;rw[VK];simp
    .rw[upd_ne D _ e];exact ho i OA
   have a5:((gs.setIfInBounds 0 a').push child)[0]? =J a':=by
    have h0:0<gs.size:=(by rw[z.size];omega);rw[Array.getElem?_push,XB (by simp;omega),YM h0]
   have a4:BaseN w0 G0 w o:=E.step (λ_ _=>rfl) rfl rfl rfl (XA _) z.geo.giv;have ej:n - (r+1)+1=n - r:=OA
   rw[ej]at Ek eV eS a0;have a1:∀tag',pend tag'=0->((Vc (n - (r+1)) D+pend (.sp r 2):Nat):Int)*KK=((Vc (n - r) (upd D (n - (r+1)) ⟨7,0,0⟩)+pend tag':Nat):Int)*KK:=λtag' hp=>by rw[eV,hp];simp[pend]
   cases r with
   |zero=>
    obtain⟨r3,V⟩:=Or;simp only[Nat.sub_zero]at Ek eV eS a0 a1
    refine⟨_,_,((phi n (Vc n (upd D (n - (0+1)) ⟨7,0,0⟩)) .kd+Ssum n (upd D (n - (0+1)) ⟨7,0,0⟩),N0+n,upd F (N0+(n - (0+1))) r2),(r3,0)),Hv,.inl (.inl (by show _+_<_+_;simp only[phi];omega)),
     _,w,sl,n,_,_,_,val,_,q,.kd,o,o,(r3,0),0,a',_,_,rfl,a5,.kd V,Ek,B,?_,OD,a4,rfl⟩
    rw[a1 .kd rfl];exact .opn trivial a0 OD
   |succ r'=>
    obtain⟨r3,V⟩:=Or
    refine⟨_,_,((phi n (Vc (n - (r'+1)) (upd D (n - (r'+1+1)) ⟨7,0,0⟩)) (.sp r' 5)+Ssum (n - (r'+1)) (upd D (n - (r'+1+1)) ⟨7,0,0⟩),N0+(n - (r'+1)),upd F (N0+(n - (r'+1+1))) r2),(r3,0)),Hv,.inl (.inl (by show _+_<_+_;simp only[phi];omega)),
     _,w,sl,n - (r'+1),_,_,_,val,_,q,.sp r' 5,o,o,(r3,0),0,a',_,_,rfl,a5,.skd OA V,Ek,B,?_,OD,a4,rfl⟩
    rw[a1 (.sp r' 5) rfl];exact .opn trivial a0 OD
  .exact Vp M H K z B W OD E p X (.sgo hr c) (.inl Y)
 |kd h=>
  rcases GoT.cases (RMo.refl _ w) h with T|⟨r',a',w',es,Y,p,X,c⟩
  .obtain⟨_,a',p,r2,V⟩:=T w (.refl _ w);exact Vo M H K z E p (.refl Wg w) B bk_dis (.anch V) (W.reopen trivial trivial rfl OD) OD (.inl (by simp only[phi];omega))
  .exact Vp M H K z B W OD E p X (.kd c) (.inl Y)
 |anch h=>
  rcases GoT.cases (RMo.refl _ w) h with T|⟨r',a',w',es,Y,p,X,c⟩
  .obtain⟨r2,V⟩:=Qg Giv o a w (T w (.refl _ w));obtain⟨m₁,ops,μ',h1,h2,h3⟩:=w1M (sl:=sl) M H hn K z B (W.reopen trivial trivial rfl OD) E V;refine⟨m₁,ops,μ',h1,.inl ?_,h3⟩;rcases h2 with(h2|⟨h2,_⟩)|⟨h2,_⟩
   .refine .inl ?_;simp only[phi]at h2⊢;show _<_+_;have:μ'.1.1<8*Vc n D+5+Ssum n D:=h2;omega
   .refine .inl ?_;simp only[phi]at h2⊢;show _<_+_;have:μ'.1.1=8*Vc n D+5+Ssum n D:=h2;omega
   .refine .inl ?_;simp only[phi]at h2⊢;show _<_+_;rw[h2];show 8*Vc n D+5+Ssum n D<_;omega
  .exact Vp M H K z B W OD E p X (.anch c) (.inl Y)
 |w1 h=>exact w1M M H hn K z B W E h
 |w2 h=>
  rename_i vs f;rcases GoT.cases (RMo.refl _ w) h with T|⟨r',a',w',es,Y,p,X,c⟩
  .obtain⟨_,Au⟩:=T w (.refl _ w);obtain⟨ho,rfl,rfl,Da⟩:=W.open_inv trivial;obtain⟨Bz,h1⟩:=Da vs rfl;obtain⟨a3,Ty⟩:=Au (Vc n D) OA (by simpa[pend]using B);by_cases e:Vc n D=vs
   .obtain⟨a',p,r2,V⟩:=a3 e;exact Vo M H K z E p (TQ w (stA Wg) _) (B.setSt _) bk_rw (.w3 V) (.reg trivial ho OA) OD (.inl (by simp only[phi];omega))
   .obtain⟨a',p,r2,V⟩:=Ty e;exact Vo M H K z E p (.refl Wg w) B bk_rd (.anch V) (W.reopen trivial trivial rfl OD) OD (.inl (by simp only[phi];omega))
  .exact Vp M H K z B W OD E p X (.w2 c) (.inl Y)
 |w3 h=>
  rcases GoT.cases (RMo.refl _ w) h with T|⟨r',a',w',es,Y,p,X,c⟩
  .obtain⟨_,T5,Ks,La⟩:=T w (.refl _ w);cases W with
   |opn h1 _ _=>exact h1.elim
   |reg h1 h2 h3=>exact Vo M H K z E (Ks ⟨_,B⟩) (.refl Wg w) B OD (.blk T) (.reg trivial h2 h3) OD (.inr ⟨rfl,.inr ⟨rfl,Nat.zero_lt_one⟩⟩)
   |last L h1 h2 h3 h4=>exact Vo M H K z E (Ks ⟨_,B⟩) (.refl Wg w) B OD (.blk T) (.last L trivial h2 h3 h4) OD (.inr ⟨rfl,.inr ⟨rfl,Nat.zero_lt_one⟩⟩)
   |sema h2=>
    obtain⟨a',p,r2,V⟩:=La B;exact Vo M H K z E p (TQ w (smA Wg) _) (B.setSm 0) bk_sem (.w4 V) (.fin trivial h2) OD (.inl (by simp only[phi];omega))
   |fin h1 _=>exact h1.elim
  .exact Vp M H K z B W OD E p X (.w3 c) (.inl Y)
 |blk h=>simp at Aj
 |w4 h=>
  rcases GoT.cases (RMo.refl _ w) h with T|⟨r',a',w',es,Y,p,X,c⟩
  .obtain⟨_,hx⟩:=T w (.refl _ w);obtain⟨hq,rfl,rfl⟩:=W.fin_inv trivial;obtain⟨a',p,r2,V⟩:=hx B;exact Vo M H K z E p (.refl Wg w) B bk_rd (.ke V) (.fin trivial hq) OD (.inl (by simp only[phi];omega))
  .exact Vp M H K z B W OD E p X (.w4 c) (.inl Y)
 |ke h=>
  rcases GoT.cases (RMo.refl _ w) h with T|⟨r',a',w',es,Y,p,X,c⟩
  .obtain⟨_,a',p,r2,V⟩:=T w (.refl _ w);obtain⟨hq,rfl,rfl⟩:=W.fin_inv trivial;exact Vo M H K z E p (.refl Wg w) B bk_en (.acq V) (.fin trivial hq) OD (.inl (by simp only[phi];omega))
  .exact Vp M H K z B W OD E p X (.ke c) (.inl Y)
 |acq h=>
  rcases GoT.cases (RMo.refl _ w) h with T|⟨r',a',w',es,Y,p,X,c⟩
  .obtain⟨_,a',p,r2,V⟩:=T w (.refl _ w);obtain⟨hq,rfl,rfl⟩:=W.fin_inv trivial;have hW:=z.geo.hWg;have Ew:grow o w w=o:=WI rfl;refine GQ (tag':= .ret) M H K z p (XA _) (λk _=>RWo.refl _ w) (λop A4=> ?_) (λop A4=> ?_) (by intro e he;simp at he;subst he;simp[mk]) z.pay (by rw[Ew];exact .ret V) B (.fin trivial hq) (λ_=> ?_) E (.inl (by simp only[phi];omega))
   .obtain⟨e,he,rfl⟩:=XR A4;simp at he;subst he;exact⟨rfl,λx hx=>by cases hx⟩
   .obtain⟨e,he,rfl⟩:=XR A4;simp at he;subst he;exact hW
   have e1:MemOp.ofEvents 0 a.frame.fn a.frame.place #[mk (.acquire (stA Wg))]= #[{g:=0,fn:=a.frame.fn,pos:=a.frame.place,act:= .mark (.acquire (stA Wg))}]:=by rw[ofEvents_eq];simp[ofEvent_mk]
   have hy:(t++ #[({g:=0,fn:=a.frame.fn,pos:=a.frame.place,act:= .mark (.acquire (stA Wg))}:MemOp)])[t.size]? =J {g:=0,fn:=a.frame.fn,pos:=a.frame.place,act:= .mark (.acquire (stA Wg))}:=OD
   refine⟨t.size,by rw[e1,act?_of hy],by rw[e1];simp[Trace.g?],by rw[e1];exact⟨0,by simp[Trace.g?],by rw[deaf_old (XA _)];exact z.deaf0⟩,λk a2=> ?_⟩;obtain⟨r,hr⟩:=z.rel k a2 (by rw[hq k a2];omega);exact⟨r,hr.app (hr.by_.appOther g_of_ofEvents OA) (λop A4 hg=>by have:=g_of_ofEvents op A4;omega),lt_of_act? hr.by_.act⟩
  .exact Vp M H K z B W OD E p X (.acq c) (.inl Y)
 |ret h=>
  rcases GoT.cases (RMo.refl _ w) h with T|⟨r',a',w',es,Y,p,X,c⟩
  .exact absurd T (Nn _ rfl h)
  .exact Vp M H K z B W Ct E p X (.ret c) (.inl Y)
end
end
section
open Go.ConcN (ShN WgLive PayAt Has CTag RW upd upd_same upd_ne WD RelBy Vc Ssum cnt phi isOpen isW3 isFin OpenSt AllQuit pend exists_counted Deaf_absent)
open Go.ConcR (KK WgAt stA smA rd wr mk Payload DC0 g_of_ofEvents Bk)
variable [Payload]
section
variable {n:Nat}{Sb:Nat->Prop}{Res:Nat->(Nat->Prop)->NM->NL->Prop}{End AnchW:(Nat->Prop)->Z->NL->Prop}
 {gs:Array Z} {w w':NL} {sl:Option (Nat×Nat)} {j:Nat} {D:Nat->WD} {O Rk:Nat->Nat->Prop} {val:Nat->NM} {F:Nat->Tr} {q:Nat->Nat} {tag tag':CTag} {Giv o:Nat->Prop} {f0 f':Tr×Nat} {d0:Nat} {a a':Z} {t:Trace} {st sm st' sm':Int} {es:Array Event}
def pC(H:∀o g w,AnchW o g w->g.status= .running)(z:∀o g w,End o g w->g.status= .running)(B:gs[0]? =J a)(y:CS P ty Wg C n Sb Res End AnchW tag j Giv o f0 d0 a w)(p:ComN P ty Wg C n Sb Res N0 j gs w t D O Rk val F q Giv o d0)(K:Go.ConcN.Mode j D tag st sm):
 ∃(i:Nat)(g:Z),gs[i]? =J g/\g.status= .running:=by
 rcases y.status H z with⟨c,_⟩|⟨_,rfl⟩
 .exact⟨0,a,B,c⟩
 .cases K with
  |opn e _ _=>exact e.elim
  |reg _ _ x=>
   obtain⟨i,hi,_⟩:=exists_counted x;obtain⟨g,h,c⟩:=p.wk i hi;exact⟨N0+i,g,h,c.running_of OA⟩
  |last L _ E x _=>
   obtain⟨g,h,c⟩:=p.wk L E;exact⟨N0+L,g,h,c.running_of OA⟩
  |fin e _=>exact e.elim
def qn(L:0<N0)(H:∀o g w,AnchW o g w->g.status= .running)(B:∀o g w,End o g w->g.status= .running)(E:gs[0]? =J a)(z:CS P ty Wg C n Sb Res End AnchW tag j Giv o f0 d0 a w)(p:ComN P ty Wg C n Sb Res N0 j gs w t D O Rk val F q Giv o d0):∀g∈gs,awake g:=by
 intro g K tm;obtain⟨i,hi⟩:=Array.mem_iff_getElem?.1 K;rcases TY i with rfl|Dv
 .rw[E]at hi;cases hi;rcases z.status H B with⟨e,_⟩|⟨e,_⟩<;>rw[e]<;>simp
 .rcases VC i N0 with y|Ha
  .obtain⟨x,hx,hq,_⟩:=p.old i Dv y;rw[hi]at hx;cases hx;rcases hq.status with h|h<;>rw[h]<;>simp
  .obtain⟨k,rfl⟩:∃k,i=N0+k:=⟨i - N0,OA⟩;have y:k<j:=by have:=(YF.1 hi).1;rw[p.size]at this;omega
   obtain⟨_,c,e⟩:=p.wk k y;rw[hi]at c;cases c;rcases e.status with h|h<;>rw[h]<;>simp
def oD(hN:0<N0)(ha:gs[0]? =J a)(Ge:End o a w)(c:ComN P ty Wg C n Sb Res N0 n gs w t D O Rk val F q Giv o 0)(T:BaseN w0 G0 w Giv)(Au:AllQuit n D)(Ct:AcqN Wg N0 n t):
 KU P Wg C n Sb Res End w0 G0 (crowd gs w sl) t:=by
 have Tz:∀k,k<n->∃m g,gs[N0+k]? =J g/\QuitsD P m (Deaf t (N0+k)) g:=by
  intro k p;obtain⟨g,y,W⟩:=c.wk k p;rw[Au k p]at W;rw[c.deafW k p];generalize (D k).deaf=dd at W⊢;generalize F (N0+k)=fu at W;generalize L:(1:Nat)=s at W;cases W with|work _=>omega| @late s m dd _ _ _ _ h=>exact⟨m,g,y,h.quits L.symm⟩
 have Lb:∀i,N0<=i/\i<N0+n->∃m,∀g,gs[i]? =J g->QuitsD P m (Deaf t i) g:=by
  intro i hi;obtain⟨k,rfl⟩:∃k,i=N0+k:=⟨i - N0,OA⟩;obtain⟨m,g,y,hq⟩:=Tz k OA;exact⟨m,λ_ B=>by rw[y]at B;cases B;exact hq⟩
 classical
 obtain⟨qa,h1,h2,h3,h4⟩:=Ct;have H:∀i k,t.g? i=J (N0+k)->k<n->∀r,RelN (ShN Wg) (stA Wg) t (N0+k) r->r<qa->i<=r->HappensBefore t i qa:=by
  intro i k y p r K Y Bz;have M:HappensBefore t r qa:= .single (.inr ⟨.marked Y (.inr K.by_.act) h1 (λk _ _=>c.norel k),K.by_.heard,h3⟩);rcases VC i r with E|Ha
  .exact .trans (.single (.inl ⟨E,_,y,K.by_.g⟩)) M
  .obtain rfl:i=r:=OA
   exact M
 have X:∀i g,t.g? i=J g->g<N0+n:=by
  intro i g y;obtain⟨op,ho,rfl⟩:=VA.1 y;exact c.tn.gs i op ho
 refine⟨gs,w,sl,a,o,O,λi=>if p:N0<=i/\i<N0+n then(Lb i p).choose else q i,rfl,ha,Ge,λb V=>c.geo.giv b (T.old b V).1,λk p=> ?_,λk p b V=>c.geo.sep k p b V,c.geo.sep2,c.pay,⟨λb V=>⟨trivial,(T.old b V).2⟩,T.tape,T.os,T.output,T.size⟩,⟨λi g hi y=> ?_,λi hi=> ?_⟩,⟨c.tn.nr,λi x L hm=> ?_,λi g y Ab hc=> ?_,c.deaf0,c.low⟩,λop A4=> ?_⟩
 .obtain⟨hh,K⟩:=c.has k p (by rw[Au k p];omega);exact⟨_,hh,K⟩
 .rcases VC i N0 with E|Ha
  .obtain⟨x,L,hq,_⟩:=c.old i hi E;rw[y]at L;cases L;simp only[dif_neg (show¬(N0<=i/\i<N0+n) by omega)];exact hq
  .have p:N0<=i/\i<N0+n:=⟨Ha,by have:=(YF.1 y).1;rw[c.size]at this;exact this⟩;simp only[dif_pos p];exact(Lb i p).choose_spec g y
 .exact Deaf_absent λx op L e=>by have:=c.tn.gs x op L;rw[c.size]at hi;omega
 .obtain⟨op,A4,_⟩:=touch_of L;have y:=Q1 A4;rcases VC op.g N0 with E|Ha
  .rcases c.oldk.known i x op.g y E L hm with h|⟨⟨ad,e1,e2⟩,h⟩
   .exact .inl h
   .exact .inr ⟨⟨ad,e1,.inl e2⟩,h⟩
  .have p:op.g - N0<n:=by have:=X i op.g y;omega
   obtain⟨r,K,Y⟩:=h4 (op.g - N0) p;have B:t.g? i=J (N0+(op.g - N0)):=by rw[y];congr 1;omega
   rcases VC r i with E|Bz
   .obtain⟨⟨ad,e1,e2⟩,h⟩:=K.late i x E B L;exact .inr ⟨⟨ad,e1,.inr e2⟩,h⟩
   .left
    obtain⟨z,hz,Xh⟩:=VA.1 h2;exact⟨qa,z,hz,Xh,.inr (H i _ B p r K Y Bz)⟩
 .rcases VC g N0 with E|Ha
  .exact c.oldk.over i g y Ab E hc
  .have p:g - N0<n:=by have:=X i g y;omega
   obtain⟨r,K,Y⟩:=h4 (g - N0) p;have B:t.g? i=J (N0+(g - N0)):=by rw[y];congr 1;omega
   rcases VC r i with E|Bz
   .exact absurd hc (K.by_.after i E B)
   .exact⟨qa,h2,H i _ B p r K Y Bz⟩
 .obtain⟨i,hi,rfl⟩:=Array.mem_iff_getElem.1 A4;have:=c.tn.gs i _ (YN hi);rw[c.size];exact this
def fL(T:ResOk Res)(H:0<N0)(hn:n<2147483648)(M:∀o g w,AnchW o g w->g.status= .running)(L:∀o g w,End o g w->g.status= .running)
 (Qg:∀Giv o g w,AnchW o g w->∃r,GoT P NC (RMo ty Wg C n) (DMo Wg Sb Giv) (MW1 P ty Wg C n Sb End AnchW Giv) r o g w)(μ:Mu)(m:Machine)(t:Trace)(h:InvN P ty Wg C n Sb Res End AnchW N0 w0 G0 μ m t):
 KU P Wg C n Sb Res End w0 G0 m t\/Ul P ty Wg C n Sb Res End AnchW N0 w0 G0 μ (stepT P m) t:=by
 obtain⟨_,w,sl,j,D,O,_,val,F,q,V,Giv,o,_,_,a,st,sm,rfl,p,y,z,B9,E,K,x,rfl⟩:=h;by_cases Cs:V= .ret/\∃f,GoT P NC (RMo ty Wg C n) (DMo Wg Sb Giv) End f o a w/\∀w₁,RMo ty Wg C n o w w₁->End o a w₁
 .left
  obtain⟨rfl,f,_,Ak⟩:=Cs;obtain⟨hq,_,_⟩:=E.fin_inv trivial;cases y with|ret h=>exact oD H p (Ak w (.refl _ w)) z x hq (K rfl)
 .right
  obtain⟨i,g,d,_,B,Aj,Ah⟩:=crowd_pick (P:=P) (w:=w) (sl:=sl) (qn H M L p y z) (pC M L p y z E);rw[Ah];have Y:=y.rely (RMo.at w d);have Ek:=z.at T d;have X:BaseN w0 G0 (w.at d) Giv:=⟨x.old,x.tape,x.os,x.output,x.size⟩;have W:WgAt ty Wg (w.at d) st sm:=B9;rcases TY i with rfl|Dv
  .rw[p]at B;cases B;refine fy T H hn Qg p Y Ek X W E K Aj (λf e _ Al=>Cs ⟨e,?_⟩);subst e;cases y with| @ret f1 _ _ _ _ h=>exact⟨f1,h,λw₁ c=>Al w₁ ⟨c.own,c.size,c.live,c.pay,c.tape,c.os,c.output⟩⟩
  .rcases VC i N0 with A5|Ha
   .exact ox T H M L p Y Ek X W E K Dv A5 B Aj
   .obtain⟨k,rfl⟩:∃k,i=N0+k:=⟨i - N0,OA⟩;have A5:k<j:=(by have:=(YF.1 B).1;rw[z.size]at this;omega);exact oB T H M L hn y.bound p Y Ek X W E K A5 B Aj
def fe(B:ResOk Res)(H:0<N0)(K:n<2147483648)(z:∀o g w,AnchW o g w->g.status= .running)(p:∀o g w,End o g w->g.status= .running)
 (x:∀Giv o g w,AnchW o g w->∃r,GoT P NC (RMo ty Wg C n) (DMo Wg Sb Giv) (MW1 P ty Wg C n Sb End AnchW Giv) r o g w):∀(μ:Mu)(m:Machine)(t:Trace),InvN P ty Wg C n Sb Res End AnchW N0 w0 G0 μ m t->
 ∃N c a,runNT P N m t=(.next c,a)/\KU P Wg C n Sb Res End w0 G0 c a:=by
 intro μ
 induction muLt2_wf.apply μ with
 |intro μ _ y=>
  intro m t h;rcases fL B H K z p x μ m t h with e|⟨E,ops,μ',F,L,hi⟩
  .exact⟨0,m,t,rfl,e⟩
  .obtain⟨N,c,a,hr,e⟩:=y μ' L E (t++ops) hi;exact⟨N+1,c,a,by simp only[runNT,F];exact hr,e⟩
def mV(hR:ResOk Res)(z:n<2147483648)(F1:∀o g w,AnchW o g w->g.status= .running)(Bp:∀o g w,End o g w->g.status= .running)
 (Qg:∀Giv o g w,AnchW o g w->∃r,GoT P NC (RMo ty Wg C n) (DMo Wg Sb Giv) (MW1 P ty Wg C n Sb End AnchW Giv) r o g w)
 {q:Nat->Nat}(X:gs[0]? =J a)(hL:Leavers P t gs q){B:Nat}(F:Past (Zu Sb) B t)(hB:B<=w.heap.size)(V:∀op∈t,∀x,op.act.touch? =J x->¬ShN Wg x.loc)(Gf:NoRelease (stA Wg) t)
 (K1:∀(i:Nat)(op:MemOp),t[i]? =J op->op.g<gs.size)(B9:WgAt ty Wg w 0 0)(F7:PayAt C n w)(Gq:GeoN Wg C Sb w 0 (λ_ _=>False) (λ_ _=>False) Giv o)(hG:∀b,G0 b->Giv b)(Dt:SpawnsN P ty Wg C n Sb Res AnchW n Giv o a w)(Pp:∀b,G0 b->w.heap[b]? =w0.heap[b]?)(T:w.tape=w0.tape)(O:w.os=w0.os)(W:w.output=w0.output)(h4:w0.heap.size<=w.heap.size):
 ∃N m' t',runNT P N (crowd gs w sl) t=(.next m',t')/\KU P Wg C n Sb Res End w0 G0 m' t':=by
 have Jk:0<gs.size:=(YF.1 X).1;have Bg:OldK gs.size (Zu Sb) t:=⟨λi x g H _ L E=>F.known i x L E,λi g H Ab _ M=>F.over i g H Ab M⟩
 have p:∀l,l.isMemory=NC->¬Zu Sb l->Perm t 0 l:=λl E z i x L e=>by
  subst e;exact(F.known i x L E).resolve_right λh=>z h.1
 have Y:ComN P ty Wg C n Sb Res gs.size 0 gs w t (λ_=>⟨0,0,0⟩) (λ_ _=>False) (λ_ _=>False) (λ_=> .nilFunc) (λi=>Tr.ofNat (q i)) q Giv o 0:=by
  refine⟨rfl,λk y=>by omega,λi D8 hi=> ?_,⟨λi op x hi L hs=>absurd hs (V op (Array.mem_of_getElem? hi) x L),λk y=>by omega,λk y=>by omega,λl E _ z _=>p l E z,λl E _ z _=>Go.ConcN.PermW.of (p l E z),F.clean,λi op hi=>by have:=K1 i op hi;omega⟩,Bg,Gf,F.hears,λk y=>by omega,λk y=>by omega,λk y=>by omega,F7,λop A4=>MemAct.low_mono hB (F.seen op A4),Gq⟩;obtain⟨g,H⟩:∃g,gs[i]? =J g:=⟨_,YN hi⟩;exact⟨g,H,hL.old i g D8 H,rfl⟩
 have A7:BaseN w0 G0 w Giv:=⟨λb hb=>⟨hG b hb,Pp b hb⟩,T,O,W,h4⟩
 have A8:∀c,isOpen c->pend c=0->(∀vs,c≠.w2 vs)->Go.ConcN.Mode 0 (λ_=>(⟨0,0,0⟩:WD)) c 0 0:=λc T O W=>by
  have:=Go.ConcN.Mode.opn (j:=0) (D:=λ_=>(⟨0,0,0⟩:WD)) T (λi hi=>by omega) (λvs e=>absurd e (W vs));simpa[Vc,Go.ConcN.sumTo,O]using this
 have K:∃μ,InvN P ty Wg C n Sb Res End AnchW gs.size w0 G0 μ (crowd gs w sl) t:=by
  cases n with
  |zero=>
   obtain⟨r,y⟩:=Dt;exact⟨_,gs,w,sl,0,_,_,_,_,_,q,.kd,Giv,o,(r,0),0,a,0,0,rfl,X,.kd y,Y,B9,A8 .kd trivial rfl OD,OD,A7,rfl⟩
  |succ r=>
   obtain⟨f,y⟩:=Dt;have M:=CS.skd (End:=End) (Nat.lt_succ_self r) y;rw[Nat.sub_self]at M;exact⟨_,gs,w,sl,0,_,_,_,_,_,q,.sp r 5,Giv,o,(f,0),0,a,0,0,rfl,X,M,Y,B9,A8 (.sp r 5) trivial rfl OD,OD,A7,rfl⟩
 obtain⟨μ,hI⟩:=K;exact fe hR Jk z F1 Bp Qg μ _ _ hI
end
end
end Go.Nk
namespace Go.Proofs.Tryv
open Go.Nk Go.RowKit Go.Conc.Lib Go.ConcR.Gen Go.ConcN.Gen
open Go.ConcN (ShN WgLive PayAt Has CTag)
open Go.ConcR (KK WgAt stA smA rd wr mk Payload DC0)
open Go.Proofs.Tryq (theBan Zh ZH link payload wgLib Grew Sh Z7)
attribute [local instance] theBan
attribute [local instance] payload
structure Mn(N n:Nat)(cc:Array NM)(sh:Nat->Obj->Prop)(o:Nat->Prop)(w:NL):Prop where
 box:w.heap[N]? =J (NH cc 132)
 out:w.heap[N+2]? =J (NH #[.slice (J ⟨N+1,0,NB⟩) n n] 134)
 live:WgLive link.tWg (N+3) w
 oN:o N
 oO:o (N+2)
 oC:¬o (N+1)
 oW:¬o (N+3)
 lt:∀b,o b->b<w.heap.size
 sz:N+3<w.heap.size
 sh:∀b ob,sh b ob->o b/\w.heap[b]? =J ob
section
variable {N n:Nat}{sh:Nat->Obj->Prop}{Sb o:Nat->Prop}{S:(Nat->Prop)->Z->NL->Prop}
def Mn.rely(h:Mn N n cc sh o w)(a:RMo link.tWg (N+3) (N+1) n o w w₁):Mn N n cc sh o w₁:=
 ⟨(a.own _ h.oN).trans h.box,(a.own _ h.oO).trans h.out,a.live h.live,h.oN,h.oO,h.oC,h.oW,λb c=>YS (h.lt b c) a.size,YS h.sz a.size,λb ob c=>⟨(h.sh b ob c).1,(a.own _ (h.sh b ob c).1).trans (h.sh b ob c).2⟩⟩
def ZB{F:(Nat->Prop)->NL->Prop}(x:∀o w w₁,RMo link.tWg (N+3) (N+1) n o w w₁->F o w->F o w₁){g c:Z}(t:g.status= .running)(a:∀w,stepG U NC g w= .go c w #[])(h:F o w)
 (next:∀w₁,F o w₁->∃r,GoT U NC (RMo link.tWg (N+3) (N+1) n) (DMo (N+3) Sb Giv) S r o c w₁):∃r,GoT U NC (RMo link.tWg (N+3) (N+1) n) (DMo (N+3) Sb Giv) S r o g w:=by
 refine GoT.step t λw₁ e=> ?_
 obtain⟨r,p⟩:=next w₁ (x _ _ _ e h)
 exact⟨_,w₁,_,r,a w₁,⟨λ_ _ _=>rfl,XA _,rfl,rfl,rfl,λe e=>by simp at e⟩,by rw[WI rfl];exact p⟩
variable {rest:List Nat}{m:Nat->NM}
def MR{F:(Nat->Prop)->NL->Prop}(E:∀o w w₁,RMo link.tWg (N+3) (N+1) n o w w₁->F o w->F o w₁){d:Nat}{v:NM}(p:b.kind≠.early)(t:ops[i]? =J oo)(c:oo.dst=J d)(z:oo.guard=NB)
 (y:∀x:NL,(NU (Zd 23 m) oo).run U x= .ok (.value v) x/\∀e∈(NU (Zd 23 m) oo).events U x #[],False)(h:F o w)
 (next:∀w₁,F o w₁->∃r,GoT U NC (RMo link.tWg (N+3) (N+1) n) (DMo (N+3) Sb Giv) S r o (G (b.at (ZD 23 (upM m d v) []) (.inRegion ops rest::k)) cs) w₁):
 ∃r,GoT U NC (RMo link.tWg (N+3) (N+1) n) (DMo (N+3) Sb Giv) S r o (G (b.at (ZD 23 m []) (.inRegion ops (i::rest)::k)) cs) w:=by
 refine GoT.step rfl λw₁ g=> ?_
 obtain⟨r,B⟩:=next w₁ (E _ _ _ g h)
 obtain⟨x,g⟩:=y w₁;have e:=stepG_value (main:=NC) (b:=b) (k:=k) (cs:=cs) (rest:=rest) (a:=ZD 23 m []) t (PI z _) p (by rw[actM_eval];exact x);rw[c,Kl]at e;refine⟨_,w₁,_,r,e,⟨λ_ _ _=>rfl,XA _,rfl,rfl,rfl,λe x=> ?_⟩,by rw[WI rfl];exact B⟩;have:=RK x;rw[actM_eval]at this;exact(g e this).elim
end
def GV(N n:Nat)(cc:Array NM)(sh:Nat->Obj->Prop):∀o w w₁,RMo link.tWg (N+3) (N+1) n o w w₁->Mn N n cc sh o w->Mn N n cc sh o w₁:=λ_ _ _ a h=>h.rely a
def MnI(N n:Nat)(cc:Array NM)(sh:Nat->Obj->Prop)(Ik:Nat)(u:Int)(o:Nat->Prop)(w:NL):Prop:=Mn N n cc sh o w/\o Ik/\w.heap[Ik]? =J (NH #[u] 3)
def cE(N n:Nat)(cc:Array NM)(sh:Nat->Obj->Prop)(Ik:Nat)(u:Int):∀o w w₁,RMo link.tWg (N+3) (N+1) n o w w₁->MnI N n cc sh Ik u o w->MnI N n cc sh Ik u o w₁:=
 λ_ _ _ a h=>⟨h.1.rely a,h.2.1,(a.own _ h.2.1).trans h.2.2⟩
section
variable {N n:Nat}{sh:Nat->Obj->Prop}{Sb o:Nat->Prop}{S:(Nat->Prop)->Z->NL->Prop}{rest:List Nat}{m:Nat->NM}
def GE(w:NL)(ob:Obj):(w.alloc ob).heap=w.heap.push ob:=rfl
def dZ{b:Nat}(h:b<w.heap.size):(w.alloc ob).heap[b]? =w.heap[b]? :=by
 rw[GE,Array.getElem?_push,XB OA]
def eP(w:NL)(ob:Obj):(w.alloc ob).heap[w.heap.size]? =J ob:=by
 rw[GE,Array.getElem?_push,YZ rfl]
def mz(K:b.kind≠.early)(M:ops[i]? =J oo)(E:oo.dst=J 5)(H:oo.guard=NB)(L:oo.op= .alloc 3)(h:Mn N n cc sh o w)
 (next:∀c w₁ Ik,MnI N n cc sh Ik 0 c w₁->w.heap.size<=Ik->(∀x,o x->c x)->∃r,GoT U NC (RMo link.tWg (N+3) (N+1) n) (DMo (N+3) Sb Giv) S r c (G (b.at (ZD 23 (upM m 5 (I (J ⟨Ik,0,NB⟩))) []) (.inRegion ops rest::k)) cs) w₁):
 ∃r,GoT U NC (RMo link.tWg (N+3) (N+1) n) (DMo (N+3) Sb Giv) S r o (G (b.at (ZD 23 m []) (.inRegion ops (i::rest)::k)) cs) w:=by
 refine GoT.step rfl λw₁ t=> ?_
 have g:=h.rely t;obtain⟨e1,e2⟩:=DR (m:=m) (w:=w₁) (z:= #[NE NF 0]) L (.inr (.inr ⟨rfl,rfl⟩));have e:=stepG_value (main:=NC) (b:=b) (k:=k) (cs:=cs) (rest:=rest) (a:=ZD 23 m []) M (PI H _) K (by rw[actM_eval];exact e1);rw[E,Kl]at e;have c:(w₁.alloc (NH #[NE NF 0] 3)).heap.size=w₁.heap.size+1:=by rw[GE];simp
 have p:∀{x ob},w₁.heap[x]? =J ob->(w₁.alloc (NH #[NE NF 0] 3)).heap[x]? =J ob:=fun{x ob} c=>(dZ (YF.1 c).1).trans c
 have F:Mn N n cc sh (grow o w₁ (w₁.alloc (NH #[NE NF 0] 3))) (w₁.alloc (NH #[NE NF 0] 3)):=by
  have B:=g.sz;refine⟨p g.box,p g.out,?_,.inl g.oN,.inl g.oO,?_,?_,λx c=> ?_,OA,λx ob c=>⟨.inl (g.sh x ob c).1,p (g.sh x ob c).2⟩⟩
  .obtain⟨x,y,c⟩:=g.live;exact⟨x,y,p c⟩
  .rintro(c|⟨c,_⟩)
   .exact g.oC c
   .omega
  .rintro(c|⟨c,_⟩)
   .exact g.oW c
   .omega
  .rcases c with c|⟨_,c⟩
   .have:=g.lt x c;omega
   .exact c
 obtain⟨r,g⟩:=next _ (w₁.alloc (NH #[NE NF 0] 3)) w₁.heap.size ⟨F,.inr ⟨XA _,OA⟩,eP _ _⟩ t.size (λx c=> .inl c)
 refine⟨_,_,_,r,e,⟨λx c _=>dZ c,OA,rfl,rfl,rfl,λc e=> ?_⟩,g⟩;have:=RK e;rw[actM_eval]at this;exact(e2 c this).elim
def pg{j:Int}(X:b.kind≠.early)(ho:ops[i]? =J oo)(K:oo.dst=NB)(V:oo.guard=NB)(A4:oo.op= .store 3 (.tmp 5) (.tmp 17))(Y:m 5= I (J Ik))(L:m 17= NE NF j)(h:MnI N n cc sh Ik u o w)
 (H:¬Giv Ik)(Ot:¬Sb Ik)(B:Ik≠N/\Ik≠N+1/\Ik≠N+2/\Ik≠N+3/\∀b ob,sh b ob->b≠Ik)
 (next:∀w₁,MnI N n cc sh Ik j o w₁->∃r,GoT U NC (RMo link.tWg (N+3) (N+1) n) (DMo (N+3) Sb Giv) S r o (G (b.at (ZD 23 m []) (.inRegion ops rest::k)) cs) w₁):
 ∃r,GoT U NC (RMo link.tWg (N+3) (N+1) n) (DMo (N+3) Sb Giv) S r o (G (b.at (ZD 23 m []) (.inRegion ops (i::rest)::k)) cs) w:=by
 refine GoT.step rfl λw₁ hw=> ?_
 obtain⟨p,E,z⟩:=cE N n cc sh Ik u _ _ _ hw h;have hc:w₁.cell? ⟨Ik,0,NB⟩=J (NE NF u):=by simp[World.cell?,z]
 have hz:w₁.frozen? ⟨Ik,0,NB⟩=ND:=by simp[World.frozen?,z]
 obtain⟨e1,e2⟩:=EI (m:=m) (w:=w₁) (a:=⟨Ik,0,NB⟩) (v:= NE NF j) A4 OC OC Y L (.inr ⟨rfl,_,rfl⟩) hc hz;have e:=stepG_none (main:=NC) (b:=b) (k:=k) (cs:=cs) (rest:=rest) (a:=ZD 23 m []) ho (PI V _) X (by rw[actM_eval];exact e1);rw[K]at e;have g:=TQ w₁ Ik (NE NF j);have T:(w₁.setCell Ik (NE NF j)).heap[Ik]? =J (NH #[j] 3):=by
  rw[setCell_eq_setRow w₁ Ik 0 #[u] _ (0,0) _ z,setRow_heap w₁ Ik _ _ _ _ z];rfl
 have O:MnI N n cc sh Ik j o (w₁.setCell Ik (NE NF j)):=by
  refine⟨⟨(g.block _ (SJ B.1)).trans p.box,(g.block _ (SJ B.2.2.1)).trans p.out,?_,p.oN,p.oO,p.oC,p.oW,λx c=>by rw[g.size];exact p.lt x c,by rw[g.size];exact p.sz,λx ob c=>⟨(p.sh x ob c).1,(g.block _ (B.2.2.2.2 x ob c)).trans (p.sh x ob c).2⟩⟩,E,T⟩;obtain⟨x,y,c⟩:=p.live;exact⟨x,y,(g.block _ (SJ B.2.2.2.1)).trans c⟩
 obtain⟨r,hn⟩:=next _ O
 have F:grow o w₁ (w₁.setCell Ik (NE NF j))=o:=WI g.size;refine⟨_,_,_,r,e,⟨λx c M=>g.block x λt=> ?_,SH g.size.symm,g.tape,g.os,g.output,λW C3=> ?_⟩,by rw[F];exact hn⟩
 .subst t;exact M.elim (λh=>h E) H
 .have:=RK C3;rw[actM_eval]at this;have he:=e2 W this;subst he;refine⟨⟨λx c=> ?_,by simp[T3]⟩,?_⟩
  .simp only[SY,MemAct.touch?,XM]at c;subst c;rw[F];refine .inr ⟨.inl ⟨_,rfl,E⟩,?_,λ_=> ?_⟩
   .rintro⟨x,t,c⟩;cases t;exact Ot c
   .rintro(⟨x,t,c⟩|⟨x,t,c⟩)
    .cases t;exact H c
    .cases t
  .simp only[SY,MemAct.low];rw[g.size];exact p.lt _ E
end
noncomputable def kL:List Item:=[.inLoop L82,.inBlock 0,.code T82]
def MX(N Ik:Nat):Deferred:={target:= .fn (.func 139) #[I (J ⟨N+3,0,NB⟩),I (J N),I (J Ik),I (J ⟨N+2,0,NB⟩)],args:= #[]}
structure Hm(N n j:Nat)(m:Nat->NM):Prop where
 t1:m 1= I (J N)
 t3:m 3= I (J ⟨N+2,0,NB⟩)
 t4:m 4= I (J ⟨N+3,0,NB⟩)
 t14:m 14= NE NF n
 t15:m 15= NE NF j
def Hm.up{N n:Nat}{m:Nat->NM}(h:Hm N n j m)(a:d≠1/\d≠3/\d≠4/\d≠14/\d≠15):Hm N n j (upM m d v):=
 ⟨(XB a.1).trans h.t1,(XB a.2.1).trans h.t3,(XB a.2.2.1).trans h.t4,(XB a.2.2.2.1).trans h.t14,(XB a.2.2.2.2).trans h.t15⟩
section
variable {o:Oper}{m:Nat->NM}
def iQ(p:P.funcs[f]? =J fn)(t:(fn.name== "runtime.NumGoroutine")=ND)(g:fn.body.isNone=ND)(a:Array NM)(w:NL):(callFunc f a).events P w #[]= #[]:=by
 have c:¬fn.name= "runtime.NumGoroutine" :=by simpa using t
 have e:¬fn.body=NB:=λh=>by rw[h]at g;cases g
 simp[callFunc,p,c,e,go_sem]
def ag{h:Array Operand}{c:Array TypeId}(g:Tryz.prog.funcs[f]? =J fn)(t:(fn.name== "runtime.NumGoroutine")=ND)(p:fn.body.isNone=ND)(x:o.op= .call {callee:= .value (.func f),args:=h,argTypes:=c})(z:h.map (Zd 23 m)=vs):
 (NU (Zd 23 m) o).run U w= .ok (.enter f vs) w/\∀e∈(NU (Zd 23 m) o).events U w #[],False:=by
 have y:Zd 23 m (.func f)= .func (.func f) #[] #[]:=rfl;have B:=Z7 g t p vs w;have a:=iQ g t p vs w;unfold NU;simp only[x,resolve,z,y,Deferred.ofValue];constructor
 .simpa[invoke,go_sem]using B
 .intro e he;simp[invoke,go_sem,a]at he
def jk{N n:Nat}(a:o.op= .makeFunc (.func 139) #[] #[.tmp 4,.tmp 1,.tmp 5,.tmp 3])(h:Hm N n j m)(c:m 5= I (J Ik)):
 (NU (Zd 23 m) o).run U w= .ok (.value (.func (.func 139) #[] #[I (J ⟨N+3,0,NB⟩),I (J N),I (J Ik),I (J ⟨N+2,0,NB⟩)])) w/\∀e∈(NU (Zd 23 m) o).events U w #[],False:=by
 have e1:Zd 23 m (.tmp 4)= I (J ⟨N+3,0,NB⟩):=h.t4;have e2:Zd 23 m (.tmp 1)= I (J N):=h.t1;have e3:Zd 23 m (.tmp 5)= I (J Ik):=c;have e4:Zd 23 m (.tmp 3)= I (J ⟨N+2,0,NB⟩):=h.t3;unfold NU;simp only[a,TD,VG,VX,e1,e2,e3,e4];constructor
 .simp[go_sem,Instr.makeFunc]
 .intro e he;simp[go_sem,Instr.makeFunc]at he
def r_go{N:Nat}(a:o.op= .go {callee:= .value (.tmp 19),args:= #[],argTypes:= #[]})(h:m 19= .func (.func 139) #[] #[I (J ⟨N+3,0,NB⟩),I (J N),I (J Ik),I (J ⟨N+2,0,NB⟩)]):
 (NU (Zd 23 m) o).run U w= .ok (.spawn (MX N Ik)) w/\(NU (Zd 23 m) o).events U w #[]= #[]:=by
 have e1:Zd 23 m (.tmp 19)= .func (.func 139) #[] #[I (J ⟨N+3,0,NB⟩),I (J N),I (J Ik),I (J ⟨N+2,0,NB⟩)]:=h;unfold NU;simp only[a,resolve,e1,Deferred.ofValue];constructor
 .simp[go_sem,MX]
 .simp[go_sem]
end
section
variable {N n:Nat}{sh:Nat->Obj->Prop}{Sb o:Nat->Prop}{m:Nat->NM}{Res:Nat->(Nat->Prop)->NM->NL->Prop}{Next:(Nat->Prop)->Z->NL->Prop}
def addFn_body:(addFn link).body=J (body_add link):=rfl
def addFn_ntmps:(addFn link).ntmps=117:=rfl
def iV{F:NL->Prop}(g:∀w c,RMo link.tWg (N+3) (N+1) n o w c->F w->F c)(y:∀w,F w->WgLive link.tWg (N+3) w)(B:¬o (N+3))(E:Hm N n j m)(h:F w)
 (next:∀w,F w->∃r,GoT U NC (RMo link.tWg (N+3) (N+1) n) (DMo (N+3) Sb Giv) (MGo U link.tWg (N+3) (N+1) n Sb Res j Next) r o (G ((base 114).at (ZD 23 (upM m 18 (.tuple #[])) []) (.inRegion q6 []::k)) cs) w):
 ∃r,GoT U NC (RMo link.tWg (N+3) (N+1) n) (DMo (N+3) Sb Giv) (KL U link.tWg (N+3) (N+1) n Sb Res Giv j Next) r o (G ((base 114).at (ZD 23 m []) (.inRegion q6 [0]::k)) cs) w:=by
 obtain⟨oo,c,t,e,x⟩:=q6_0;refine GoT.step rfl λw₁ z=> ?_
 have p:=g _ _ z h;have z:(#[Operand.tmp 4,.const (NE NF 1)]:Array Operand).map (Zd 23 m)= #[I (J ⟨N+3,0,NB⟩),NE NF 1]:=by
  have e1:Zd 23 m (.tmp 4)= I (J ⟨N+3,0,NB⟩):=E.t4;simp only[TD,VG,VX,e1];rfl
 obtain⟨e1,e2⟩:=ag (w:=w₁) (m:=m) wgLib.f_add (nm_add link) rfl e z;have e:=stepG_enter (main:=NC) (b:=base 114) (k:=k) (cs:=cs) (rest:=[]) (a:=ZD 23 m []) c (PI x _) OC (by rw[actM_eval];exact e1);rw[enter_at _ wgLib.f_add addFn_body]at e
 obtain⟨r,z⟩:=addM (L:=link) (Wg:=N+3) (C:=N+1) (n:=n) (Sb:=Sb) (Giv:=Giv) (o:=o) (Res:=Res) (j:=j) (Next:=Next) (F:=F) (b₀:=base 114) (a₀:=ZD 23 m []) (ops₀:=q6) (i₀:=0) (rest₀:=[]) (k₀:=k) (cs:=cs) wgLib B OA g (λw g _=>by
  have x:(q6[0]?).bind (·.dst)=J 18:=by rw[c];exact t
  rw[x,Kl];exact next w g) w₁ ⟨p,y _ p⟩
 refine⟨_,w₁,_,r,e,⟨λ_ _ _=>rfl,XA _,rfl,rfl,rfl,λc e=> ?_⟩,?_⟩
 .have:=RK e;rw[actM_eval]at this;exact(e2 c this).elim
 .rw[WI rfl,addFn_ntmps];simp only[UG,YP,XW,Nat.reduceAdd,Nat.reduceSub,TF,TE,TM,TG,YJ,YK,VD];exact z
end
abbrev Nx(N n:Nat)(Sb:Nat->Prop)(Res:Nat->(Nat->Prop)->NM->NL->Prop)(A:(Nat->Prop)->Z->NL->Prop)(r:Nat):(Nat->Prop)->Z->NL->Prop:=
 λo g w=>SpawnsN U link.tWg (N+3) (N+1) n Sb Res A r o o g w
def az(N n:Nat)(Sb:Nat->Prop)(Res:Nat->(Nat->Prop)->NM->NL->Prop)(A:(Nat->Prop)->Z->NL->Prop)(Giv:Nat->Prop):Nat->(Nat->Prop)->Z->NL->Prop
 |0=>MKd U link.tWg (N+3) (N+1) n Sb A Giv
 |r+1=>KL U link.tWg (N+3) (N+1) n Sb Res Giv (n - (r+1)) (Nx N n Sb Res A r)
section
variable {N n:Nat}{sh:Nat->Obj->Prop}{Sb o:Nat->Prop}{m:Nat->NM}{Res:Nat->(Nat->Prop)->NM->NL->Prop}{A:(Nat->Prop)->Z->NL->Prop}
def HD(r:Nat)(g:Z):SpawnsN U link.tWg (N+3) (N+1) n Sb Res A r Giv o g w=∃t,GoT U NC (RMo link.tWg (N+3) (N+1) n) (DMo (N+3) Sb Giv) (az N n Sb Res A Giv r) t o g w:=by
 cases r<;>rfl
def rm(hn:n<=8)(Ji:∀b,Sb b->b<N)(Cc:∀b ob,sh b ob->b<N)
 (Ld:∀j o w Ik,j<n->MnI N n cc sh Ik j o w->¬Sb Ik->N+3<Ik->PayAt (N+1) n w->LA U link.tWg (N+3) (N+1) n Sb Res j o (born U (MX N Ik)) w)
 (Cs:∀Giv o w m,Hm N n n m->Mn N n cc sh o w->∃t,GoT U NC (RMo link.tWg (N+3) (N+1) n) (DMo (N+3) Sb Giv) (MKd U link.tWg (N+3) (N+1) n Sb A Giv) t o (G ((base 114).at (ZD 23 m []) [.code T82]) cs) w):
 ∀(r j:Nat)(m:Nat->NM)(Giv o:Nat->Prop)(w:NL),j+r=n->Hm N n j m->Mn N n cc sh o w->(∀b,Giv b->b<w.heap.size)->
  SpawnsN U link.tWg (N+3) (N+1) n Sb Res A r Giv o (G ((base 114).at (ZD 23 m []) (.code L82::kL)) cs) w:=by
 intro r
 induction r with
 |zero=>
  intro j m Giv o w hj g c U0;obtain rfl:j=n:=OA
  rw[HD,L82_eq];have M:=GV N j cc sh;refine ZB M rfl (λw=>XJ) c λw c=> ?_
  refine ZB M rfl (λw=>UQ) c λw c=> ?_
  rw[q4_size];obtain⟨oo,K,z,H,E⟩:=q4_0;refine MR M OC K z E (λx=>bo H g.t15 g.t14) c λw c=> ?_
  rw[show decide ((j:Int)<j)=ND from XV OA];refine ZB M rfl (λw=>XD) c λw c=> ?_
  refine ZB M rfl (λw=>XJ) c λw c=> ?_
  refine ZB M rfl (λw=>stepG_cond (t:=ND) (by rw[actM_eval];rfl)) c λw c=> ?_
  refine ZB M rfl (λw=>stepG_exit (k':=[.code T82]) rfl) c λw c=> ?_
  exact Cs Giv o w _ (g.up OC) c
 |succ r ih=>
  intro j m Giv o w hj g c U0;have Rr:n - (r+1)=j:=OA
  rw[HD,L82_eq];simp only[az,Rr];have M:=GV N n cc sh;have Ba:=c.sz;obtain⟨B,hB,Xo⟩:∃B,(∀b,Giv b->b<B)/\B<=w.heap.size/\N+3<B:=⟨_,U0,XA _,Ba⟩;have p:∀o w w₁,RMo link.tWg (N+3) (N+1) n o w w₁->(Mn N n cc sh o w/\B<=w.heap.size)->(Mn N n cc sh o w₁/\B<=w₁.heap.size):=λo w w₁ hr h=>⟨h.1.rely hr,XC h.2 hr.size⟩
  have c:Mn N n cc sh o w/\B<=w.heap.size:=⟨c,Xo.1⟩;refine ZB p rfl (λw=>XJ) c λw c=> ?_
  refine ZB p rfl (λw=>UQ) c λw c=> ?_
  rw[q4_size];obtain⟨oo,K,z,H,E⟩:=q4_0;refine MR p OC K z E (λx=>bo H g.t15 g.t14) c λw c=> ?_
  rw[show decide ((j:Int)<n)=NC from VB OA];replace g:=g.up (d:=16) (v:= .bool NC) OC;have a0:(upM m 16 (.bool NC)) 16= .bool NC:=rfl;generalize upM m 16 (.bool NC)=m1 at g a0⊢;refine ZB p rfl (λw=>XD) c λw c=> ?_
  refine ZB p rfl (λw=>XJ) c λw c=> ?_
  refine ZB p rfl (λw=>stepG_cond (t:=NC) (by rw[actM_eval];exact a0)) c λw c=> ?_
  refine ZB p rfl (λw=>UY) c λw c=> ?_
  refine ZB p rfl (λw=>XJ) c λw c=> ?_
  refine ZB p rfl (λw=>stepG_block) c λw c=> ?_
  refine ZB p rfl (λw=>XJ) c λw c=> ?_
  refine ZB p rfl (λw=>UQ) c λw c=> ?_
  rw[q5_size];obtain⟨oo,K,z,H,E⟩:=q5_0;refine MR p OC K z E (λx=>Et (s:=15) H (.inr rfl) OC) c λw c=> ?_
  rw[g.t15];replace g:=g.up (d:=17) (v:= NE NF j) OC;have Xm:(upM m1 17 (NE NF j)) 17= NE NF j:=rfl;generalize upM m1 17 (NE NF j)=m2 at g Xm⊢;obtain⟨oo,K,z,H,E⟩:=q5_1;refine mz OC K z E H c.1 λo1 O Ik y Lc _=> ?_
  have a1:B<=Ik:=XC c.2 Lc;replace g:=g.up (d:=5) (v:= I (J Ik)) OC;have h5:(upM m2 5 (I (J Ik))) 5= I (J Ik):=rfl;have U1:(upM m2 5 (I (J Ik))) 17= NE NF j:=Xm;generalize upM m2 5 (I (J Ik))=m3 at g h5 U1⊢;have Ot:¬Sb Ik:=λh=>by have:=Ji _ h;omega
  obtain⟨oo,K,z,H,E⟩:=q5_2;refine pg OC K z E H h5 U1 y (λh=>by have:=hB _ h;omega) Ot ⟨OA,OA,OA,OA,λb ob hb=>by have:=Cc b ob hb;omega⟩ λO y=> ?_
  have T:=cE N n cc sh Ik j;refine ZB T rfl (λw=>XD) y λO y=> ?_
  refine ZB T rfl (λw=>XJ) y λO y=> ?_
  refine ZB T rfl (λw=>UQ) y λO y=> ?_
  rw[q6_size];refine iV (F:=MnI N n cc sh Ik j o1) (T o1) (λw h=>h.1.live) y.1.oW g y λO y=> ?_
  replace g:=g.up (d:=18) (v:= .tuple #[]) OC;have Y:(upM m3 18 (.tuple #[])) 5= I (J Ik):=h5;generalize upM m3 18 (.tuple #[])=m4 at g Y⊢;refine ZB T rfl (λw=>XD) y λO y=> ?_
  refine ZB T rfl (λw=>UQ) y λO y=> ?_
  rw[q7_size];obtain⟨oo,K,z,H,E⟩:=q7_0;refine MR T OC K z E (λx=>jk (N:=N) (Ik:=Ik) H g Y) y λO y=> ?_
  replace g:=g.up (d:=19) (v:= .func (.func 139) #[] #[I (J ⟨N+3,0,NB⟩),I (J N),I (J Ik),I (J ⟨N+2,0,NB⟩)]) OC;have X:(upM m4 19 (.func (.func 139) #[] #[I (J ⟨N+3,0,NB⟩),I (J N),I (J Ik),I (J ⟨N+2,0,NB⟩)])) 19= .func (.func 139) #[] #[I (J ⟨N+3,0,NB⟩),I (J N),I (J Ik),I (J ⟨N+2,0,NB⟩)]:=rfl;generalize upM m4 19 (.func (.func 139) #[] #[I (J ⟨N+3,0,NB⟩),I (J N),I (J Ik),I (J ⟨N+2,0,NB⟩)])=m5 at g X⊢;refine⟨.leaf,GoT.stop _ λw2 Da=> ?_⟩;have Rt:=T _ _ _ Da y;obtain⟨oo,K,z,H,E⟩:=q7_1;obtain⟨e1,e2⟩:=r_go (w:=w2) H X;have e:=stepG_spawn (main:=NC) (b:=base 114) (k:= .inBlock 1:: .code (.region 8 q8 ND)::kL) (cs:=cs) (rest:=[]) (a:=ZD 23 m5 []) (f:= .func 139) K (PI E _) OC (by rw[actM_eval];exact e1) rfl;have hl:listed U (base 114).fn (ZD 23 m5 []) oo w2= #[]:=by
   unfold listed;rw[actM_eval,e2];exact seen_none _ _
  rw[hl,z]at e;refine⟨rfl,_,_,e,rfl,λhp=>Ld j o1 w2 Ik OA Rt Ot OA hp,?_⟩;show SpawnsN _ _ _ _ _ _ _ _ _ _ _ _ _;rw[HD];have Tl:=Rt.1;have V:∀o w w₁,RMo link.tWg (N+3) (N+1) n o w w₁->Mn N n cc sh o w->Mn N n cc sh o w₁:=M;refine ZB V rfl (λw=>XD) Tl λW L=> ?_
  refine ZB V rfl (λw=>stepG_inBlock) L λW L=> ?_
  refine ZB V rfl (λw=>UQ) L λW L=> ?_
  rw[q8_size];obtain⟨oo,K,z,H,E⟩:=q8_0;refine MR V OC K z E (λx=>gZ (i:=j) OA H g.t15) L λW L=> ?_
  replace g:=g.up (d:=20) (v:= NE NF ((j+1:Nat):Int)) OC;have Mt:(upM m5 20 (NE NF ((j+1:Nat):Int))) 20= NE NF ((j+1:Nat):Int):=rfl;generalize upM m5 20 (NE NF ((j+1:Nat):Int))=m6 at g Mt⊢;obtain⟨oo,K,z,H,E⟩:=q8_1;refine MR V OC K z E (λx=>Et (s:=20) H (.inr rfl) OC) L λW L=> ?_
  rw[Mt];refine ZB V rfl (λw=>XD) L λW L=> ?_
  refine ZB V rfl (λw=>stepG_inLoop) L λW L=> ?_
  rw[<-HD];exact ih (j+1) _ _ _ _ OA ⟨g.t1,g.t3,g.t4,g.t14,rfl⟩ L (λb hb=>L.lt b hb)
end
end Go.Proofs.Tryv
