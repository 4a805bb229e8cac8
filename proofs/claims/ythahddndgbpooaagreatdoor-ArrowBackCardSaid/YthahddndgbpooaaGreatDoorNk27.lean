import Derived.Test.YthahddndgbpooaaGreatDoorNkA
import Derived.Test.YthahddndgbpooaaGreatDoorNk26
set_option linter.all false
set_option maxRecDepth 100000
set_option maxHeartbeats 4000000
open Go Go.Nk Go.RowKit
variable {r0 r1 r2 r3:Int}{a b c i k n:Nat}{o:Obj}{u v:Value}{w:World}
namespace Go.Proofs.Tryq
def LB(a b:Nat):Prop:=∃x,x<8/\a.testBit x=true/\b.testBit x=false/\∀j,j<x->a.testBit j=b.testBit j
theorem LB.trans{a b c:Nat}:LB a b->LB b c->LB a c:=by
 rintro⟨x,hx,h1,h2,h3⟩ ⟨y,hy,k1,k2,k3⟩;rcases QE x y with h|h|h
 ·exact⟨x,hx,h1,by rw[<-k3 x h];exact h2,λj hj=>(h3 j hj).trans (k3 j (by omega))⟩
 ·subst h;rw[h2] at k1;cases k1
 ·exact⟨y,hy,by rw[h3 y h];exact k1,k2,λj hj=>(h3 j (by omega)).trans (k3 j hj)⟩
theorem LB.irrefl(h:LB a a):False:=by
 obtain⟨x,_,h1,h2,_⟩:=h;rw[h1] at h2;cases h2
theorem low_all:(List.range 256).all (λx=>x==0||(decide (tz x<8)&&bits .and .i64 (x:Int) (wrap64 (-(x:Int)))==((2 ^ tz x:Nat):Int)&&x.testBit (tz x)&&(List.range (tz x)).all λj=> !x.testBit j))=true:=by kernel_rfl
theorem and_all:(List.range 256).all (λa=>(List.range 8).all λi=>(bits .and .i64 (a:Int) ((2 ^ i:Nat):Int) !=0)==a.testBit i)=true:=by kernel_rfl
theorem ZaF(ha:a<256)(hb:b<256):bits .xor .i64 (a:Int) (b:Int)=((a ^^^ b:Nat):Int):=by
 have hx:a ^^^ b<2 ^ 8:=Nat.xor_lt_two_pow (by omega) (by omega);have h1:(BitVec.ofInt 64 (a:Int)).toNat=a:=by
  rw[BitVec.ofInt_natCast,BitVec.toNat_ofNat];exact Nat.mod_eq_of_lt (by omega)
 have h2:(BitVec.ofInt 64 (b:Int)).toNat=b:=by
  rw[BitVec.ofInt_natCast,BitVec.toNat_ofNat];exact Nat.mod_eq_of_lt (by omega)
 show IntKind.i64.wrap ((BitVec.ofInt 64 (a:Int) ^^^ BitVec.ofInt 64 (b:Int)).toNat:Int)=_;rw[BitVec.toNat_xor,h1,h2,QU];omega
theorem Z4m(ha:a<256)(hb:b<256)(A9:a≠b):∃i,i<8/\a.testBit i≠b.testBit i/\(∀j,j<i->a.testBit j=b.testBit j)/\Z1g a b=a.testBit i:=by
 have hx:a ^^^ b<2 ^ 8:=Nat.xor_lt_two_pow (by omega) (by omega);have h0:a ^^^ b≠0:=λh=>A9 (Nat.eq_of_testBit_eq λi=>by have h9:=SG (λx=>x.testBit i) h;simp[Nat.testBit_xor] at h9;exact h9)
 have h1:=YL.1 low_all _ (YU.2 hx);simp only[UB,YG,XW,XG,h0,false_or,YL,YU] at h1;obtain⟨⟨⟨h2,h3⟩,h4⟩,h5⟩:=h1;have h6:=YL.1 (YL.1 and_all a (YU.2 ha)) _ (YU.2 h2);rw[XW] at h6;refine⟨tz (a ^^^ b),h2,?_,?_,?_⟩
 ·rw[Nat.testBit_xor] at h4;intro e;rw[e] at h4;simp at h4
 ·intro j hj;have:=h5 j hj;rw[Nat.testBit_xor] at this;cases h:a.testBit j<;>cases h':b.testBit j<;>simp[h,h'] at this⊢
 ·unfold Z1g;rw[ZaF ha hb,h3,h6];have:((((a ^^^ b:Nat):Int)) !=0)=true:=by simp[h0]
  rw[this,TL]
theorem Z4n(ha:a<256)(hb:b<256):Z1g a b=true↔LB a b:=by
 by_cases A9:a=b
 ·subst A9;constructor
  ·intro h;unfold Z1g at h;rw[ZaF ha ha] at h;simp at h
  ·exact λh=>h.irrefl.elim
 ·obtain⟨i,h1,h2,h3,h4⟩:=Z4m ha hb A9;rw[h4];constructor
  ·intro h;refine⟨i,h1,h,?_,h3⟩;cases hb:b.testBit i with
   |false=>rfl
   |true=>rw[h,hb] at h2;exact absurd rfl h2
  ·rintro⟨x,hx,k1,k2,k3⟩;rcases QE x i with h|h|h
   ·rw[h3 x h,k2] at k1;cases k1
   ·subst h;exact k1
   ·exact absurd (k3 i h) h2
theorem LB.total(ha:a<256)(hb:b<256)(A9:a≠b):LB a b\/LB b a:=by
 obtain⟨i,h1,h2,h3,_⟩:=Z4m ha hb A9;cases h:a.testBit i with
 |true=>exact .inl ⟨i,h1,h,by cases hb:b.testBit i with|false=>rfl|true=>rw[h,hb] at h2;exact absurd rfl h2,h3⟩
 |false=>exact .inr ⟨i,h1,by cases hb:b.testBit i with|true=>rfl|false=>rw[h,hb] at h2;exact absurd rfl h2,h,λj hj=>(h3 j hj).symm⟩
def Lx:List Int->List Int->Prop
 |_,[]=>False
 |[],_::_=>True
 |x::t,y::u=>x<y\/(x=y/\Lx t u)
theorem chooseR_lx:∀(s:List Int),s.Pairwise (·<·)->(chooseR s).Pairwise Lx
 |[],_=>by simp[chooseR]
 |x::t,hs=>by
  have ih:=chooseR_lx t (RL hs);have My:∀c∈(chooseR t).tail,∃y u,c=y::u/\y∈t:=by
   intro c hc;have A9:=chooseR_ne t c hc;have Ed:=chooseR_mem t c (List.mem_of_mem_tail hc);cases c with
   |nil=>exact absurd rfl A9
   |cons y c=>exact⟨y,c,rfl,Ed.subset YY⟩
  rw[chooseR,List.pairwise_cons];constructor
  ·intro c hc;rcases VB.1 hc with h|h
   ·obtain⟨y,_,rfl⟩:=VD.1 h;trivial
   ·obtain⟨y,u,rfl,_⟩:=My c h;trivial
  ·rw[SN];refine⟨?_,?_,?_⟩
   ·rw[List.pairwise_map];exact ih.imp λh=> .inr ⟨rfl,h⟩
   ·rw[chooseR_head t] at ih;exact RL ih
   ·intro a ha b hb;obtain⟨y,_,rfl⟩:=VD.1 ha;obtain⟨z,u,rfl,hz⟩:=My b hb;exact .inl (TP hs hz)
theorem lx_first:∀{la lb:List Int},la.Pairwise (·<·)->lb.Pairwise (·<·)->Lx la lb->la.length=lb.length->∃x,x∈la/\x∉lb/\∀j,j<x->(j∈la↔j∈lb)
 |la,[],_,_,h,_=>by cases la<;>exact h.elim
 |[],_::_,_,_,_,h=>by simp at h
 |x::t,y::u,ha,hb,h,hl=>by
  rcases h with h|⟨rfl,h⟩
  ·have hyu:∀q∈y::u,y<=q:=by
    intro q hq;rcases XE.1 hq with rfl|hq
    ·exact RE _
    ·exact Int.le_of_lt (TP hb hq)
   refine⟨x,YY,λhx=>by have:=hyu x hx;omega,λj hj=>⟨λhm=> ?_,λhm=> ?_⟩⟩
   ·rcases XE.1 hm with rfl|hm
    ·omega
    ·have:=TP ha hm;omega
   ·have:=hyu j hm;omega
  ·obtain⟨z,h1,h2,h3⟩:=lx_first (RL ha) (RL hb) h (by simpa using hl);have hz:=TP ha h1;refine⟨z,YW _ h1,λhm=> ?_,λj hj=> ?_⟩
   ·rcases XE.1 hm with rfl|hm
    ·omega
    ·exact h2 hm
   ·rw[XE,XE,h3 j hj]
def upL(n:Nat):List Int:=(List.range n).map fun(i:Nat)=>(i:Int)
def Zer(l:List Int):Nat:=l.foldl (λm i=>m+2 ^ i.toNat) 0
theorem choose_all:(List.range 9).all (λn=>(chooseR (upL n)).all λl=>decide (Zer l<2 ^ n)&&ZN (Zer l)==l)=true:=by kernel_rfl
theorem set_all:(List.range 9).all (λn=>(List.range (2 ^ n)).all λk=>(ZN k).isSublist (upL n))=true:=by kernel_rfl
theorem Z8E(hn:n<=8){l:List Int}(h:l∈chooseR (upL n)):∃k,k<2 ^ n/\l=ZN k:=by
 have:=YL.1 (YL.1 choose_all n (YU.2 (by omega))) l h;simp only[YG,XG,XW] at this;exact⟨_,this.1,this.2.symm⟩
theorem Z4o(hn:n<=8)(hk:k<2 ^ n):ZN k∈chooseR (upL n):=by
 have:=YL.1 (YL.1 set_all n (YU.2 (by omega))) k (YU.2 hk);exact mem_chooseR _ _ (List.isSublist_iff_sublist.1 this)
theorem Z7P(k:Nat):(ZN k).Pairwise (·<·):=by
 rw[ZN,List.pairwise_map,bl];exact(List.Pairwise.filter _ List.pairwise_lt_range).imp λh=>by omega
theorem lx_LB(h:Lx (ZN a) (ZN b))(hl:(ZN a).length=(ZN b).length):LB a b:=by
 obtain⟨x,h1,h2,h3⟩:=lx_first (Z7P a) (Z7P b) h hl;obtain⟨i,hi,hb,rfl⟩:=Zc4.1 h1;refine⟨i,hi,hb,?_,λj hj=> ?_⟩
 ·cases Rv:b.testBit i with
  |false=>rfl
  |true=>exact absurd (Zc4.2 ⟨i,hi,Rv,rfl⟩) h2
 ·have h4:=h3 (j:Int) (by omega);have h5:∀c:Nat,(j:Int)∈ZN c↔c.testBit j=true:=by
   intro c;rw[Zc4];constructor
   ·rintro⟨i',_,h,e⟩;have:i'=j:=(by omega);subst this;exact h
   ·exact λh=>⟨j,by omega,h,rfl⟩
  rw[h5,h5] at h4;exact TQ.2 h4
structure Bt(bt:Int->Int->Bool):Prop where
 asym:∀a b,bt a b=true->bt b a=true->False
 trans:∀a b c,bt a b=true->bt b c=true->bt a c=true
 total:∀a b,a≠b->bt a b=true\/bt b a=true
theorem bt_lt:Bt λa b=>decide (a<b):=⟨λa b h h'=>by simp at h h';omega,λa b c h h'=>by simp at h h'⊢;omega,λa b h=>by simp;omega⟩
theorem bt_gt:Bt λa b=>decide (b<a):=⟨λa b h h'=>by simp at h h';omega,λa b c h h'=>by simp at h h'⊢;omega,λa b h=>by simp;omega⟩
def BetS(bt:Int->Int->Bool)(a b:Nat):Prop:=bt (bl a).length (bl b).length=true\/((bl a).length=(bl b).length/\LB a b)
theorem BetS.trans{bt:Int->Int->Bool}(hb:Bt bt){a b c:Nat}:BetS bt a b->BetS bt b c->BetS bt a c:=by
 rintro(h|⟨h,h'⟩) (k|⟨k,k'⟩)
 ·exact .inl (hb.trans _ _ _ h k)
 ·exact .inl (by rw[<-k];exact h)
 ·exact .inl (by rw[h];exact k)
 ·exact .inr ⟨h.trans k,h'.trans k'⟩
theorem Z4p{f:Nat->Bool}{bt:Int->Int->Bool}(hb:Bt bt):∀n,n<=256->((Zm f bt n).2=false->(Zm f bt n).1=0/\∀k,k<n->f k=false)/\((Zm f bt n).2=true->f (Zm f bt n).1=true/\(Zm f bt n).1<n/\∀k,k<n->f k=true->k=(Zm f bt n).1\/BetS bt (Zm f bt n).1 k)
 |0,_=>by simp[Zm]
 |n+1,hn=>by
  obtain⟨ih1,ih2⟩:=Z4p (f:=f) hb n (by omega);have A3:=Z56 f bt n (by omega);rw[Zm];cases hf:f n with
  |false=>
   rw[QA,XA (by decide)];refine⟨λh=>⟨(ih1 h).1,λk hk=> ?_⟩,λh=>⟨(ih2 h).1,by have:=(ih2 h).2.1;omega,λk hk Lw=> ?_⟩⟩
   ·by_cases e:k=n
    ·subst e;exact hf
    ·exact(ih1 h).2 k (by omega)
   ·by_cases e:k=n
    ·subst e;rw[hf] at Lw;cases Lw
    ·exact(ih2 h).2.2 k (by omega) Lw
  |true=>
   rw[TL];by_cases hc:(!(Zm f bt n).2||bt (bl n).length (bl (Zm f bt n).1).length||((bl n).length==(bl (Zm f bt n).1).length&&Z1g n (Zm f bt n).1))=true
   ·rw[YZ hc];refine⟨λh=>(by cases h),λ_=>⟨hf,by omega,λk hk Lw=> ?_⟩⟩;by_cases e:k=n
    ·exact .inl e
    ·right
     show BetS bt n k;cases Ko:(Zm f bt n).2 with
     |false=>rw[(ih1 Ko).2 k (by omega)] at Lw;cases Lw
     |true=>
      rw[Ko] at hc;simp only[RA,TV,UB,YG,XW] at hc;have h1:BetS bt n (Zm f bt n).1:=by
       rcases hc with hc|⟨hc,hl⟩
       ·exact .inl hc
       ·exact .inr ⟨hc,(Z4n (by omega) A3).1 hl⟩
      rcases(ih2 Ko).2.2 k (by omega) Lw with rfl|h2
      ·exact h1
      ·exact h1.trans hb h2
   ·rw[XA hc];cases Ko:(Zm f bt n).2 with
    |false=>rw[Ko] at hc;simp at hc
    |true=>
     rw[Ko] at hc;simp only[RA,TV,UB,YG,XW,not_or,not_and] at hc;refine⟨λh=>(by cases h),λ_=>⟨(ih2 Ko).1,by have:=(ih2 Ko).2.1;omega,λk hk Lw=> ?_⟩⟩;by_cases e:k=n
     ·subst e;right;by_cases hl:(bl k).length=(bl (Zm f bt k).1).length
      ·have Kw:=hc.2 hl;rw[Z4n (by omega) A3] at Kw;have A9:k≠(Zm f bt k).1:=(by have:=(ih2 Ko).2.1;omega);exact .inr ⟨hl.symm,(LB.total (by omega) A3 A9).resolve_left Kw⟩
      ·exact .inl ((hb.total _ _ (λh=>hl (by omega))).resolve_left hc.1)
     ·exact(ih2 Ko).2.2 k (by omega) Lw
def ZaG(f:List Int->Bool)(bt:Int->Int->Bool)(b:List Int×Bool)(cs:List (List Int)):List Int×Bool:=cs.foldl (λb l=>if(!b.2||bt l.length b.1.length)&&f l then(l,true) else b) b
def Zdz(f:List Int->Bool)(bt:Int->Int->Bool)(cs:List (List Int))(b:List Int×Bool):Prop:=
 (b.2=false->b.1=[]/\∀l∈cs,f l=false)/\(b.2=true->f b.1=true/\b.1∈cs/\∀l∈cs,f l=true->l=b.1\/bt b.1.length l.length=true\/(b.1.length=l.length/\Lx b.1 l))
theorem Z4q{f:List Int->Bool}{bt:Int->Int->Bool}(hb:Bt bt):∀(cs done:List (List Int))(b:List Int×Bool),(done++cs).Pairwise Lx->Zdz f bt done b->Zdz f bt (done++cs) (ZaG f bt b cs)
 |[],done,b,_,h=>by rw[UQ];exact h
 |l::cs,done,b,hp,h=>by
  have e:done++l::cs=(done++[l])++cs:=by simp
  rw[e] at hp⊢;refine Z4q hb cs (done++[l]) _ hp ?_;show Zdz f bt (done++[l]) (if((!b.2||bt l.length b.1.length)&&f l)=true then(l,true) else b);have hlx:∀l'∈done,Lx l' l:=by
   intro l' hl';have h1:=(SN.1 hp).1;exact(SN.1 h1).2.2 l' hl' l (by simp)
  obtain⟨h1,h2⟩:=h;cases hf:f l with
  |false=>
   rw[Bool.and_false,XA (by decide)];refine⟨λAs=>⟨(h1 As).1,λl' hl'=> ?_⟩,λAs=>⟨(h2 As).1,RP _ (h2 As).2.1,λl' hl' Dm=> ?_⟩⟩
   ·rcases VB.1 hl' with hm|hm
    ·exact(h1 As).2 l' hm
    ·rw[XO.1 hm];exact hf
   ·rcases VB.1 hl' with hm|hm
    ·exact(h2 As).2.2 l' hm Dm
    ·rw[XO.1 hm,hf] at Dm;cases Dm
  |true=>
   rw[Bool.and_true];by_cases hc:(!b.2||bt l.length b.1.length)=true
   ·rw[YZ hc];refine⟨λh=>(by cases h),λ_=>⟨hf,by simp,λl' hl' Dm=> ?_⟩⟩;rcases VB.1 hl' with hm|hm
    ·right
     show bt l.length l'.length=true\/_;cases As:b.2 with
     |false=>rw[(h1 As).2 l' hm] at Dm;cases Dm
     |true=>
      rw[As] at hc;simp only[RA,TV] at hc;left;rcases(h2 As).2.2 l' hm Dm with rfl|h3|⟨h3,_⟩
      ·exact hc
      ·exact hb.trans _ _ _ hc h3
      ·rw[<-h3];exact hc
    ·exact .inl (XO.1 hm)
   ·rw[XA hc];have As:b.2=true:=by
     cases As:b.2 with
     |true=>rfl
     |false=>rw[As] at hc;simp at hc
    rw[As] at hc;simp only[RA,TV] at hc;refine⟨λh=>(by rw[As] at h;cases h),λ_=>⟨(h2 As).1,RP _ (h2 As).2.1,λl' hl' Dm=> ?_⟩⟩;rcases VB.1 hl' with hm|hm
    ·exact(h2 As).2.2 l' hm Dm
    ·rw[XO.1 hm];right;by_cases hl:b.1.length=l.length
     ·exact .inr ⟨hl,hlx _ (h2 As).2.1⟩
     ·exact .inl ((hb.total _ _ (λh=>hl (by omega))).resolve_right hc)
theorem ZaH(hn:n<=8){f:Nat->Bool}{g:List Int->Bool}{bt:Int->Int->Bool}(hb:Bt bt)(Vt:∀k,k<2 ^ n->f k=g (ZN k)):ZN (Zm f bt (2 ^ n)).1=(ZaG g bt ([],false) (chooseR (upL n))).1:=by
 have Yo:2 ^ n<=256:=by have:=RO (n:=2) (by omega) hn;exact this
 obtain⟨h1,h2⟩:=Z4p (f:=f) hb (2 ^ n) Yo;have Td:(upL n).Pairwise (·<·):=by
  rw[upL,List.pairwise_map];exact List.pairwise_lt_range.imp λh=>by omega
 obtain⟨k1,k2⟩:=Z4q (f:=g) hb (chooseR (upL n)) [] ([],false) (by rw[YJ];exact chooseR_lx _ Td) ⟨λ_=>⟨rfl,λl hl=>by cases hl⟩,λh=>by cases h⟩;rw[YJ] at k1 k2;cases hp:(ZaG g bt ([],false) (chooseR (upL n))).2 with
 |false=>
  have hz:=(k1 hp).2;have:(Zm f bt (2 ^ n)).2=false:=by
   cases hf:(Zm f bt (2 ^ n)).2 with
   |false=>rfl
   |true=>
    have h3:=h2 hf;have h4:=hz _ (Z4o hn h3.2.1);rw[<-Vt _ h3.2.1,h3.1] at h4;cases h4
  rw[(h1 this).1,(k1 hp).1];rfl
 |true=>
  obtain⟨k3,k4,k5⟩:=k2 hp;obtain⟨m,hm,em⟩:=Z8E hn k4;have hf:(Zm f bt (2 ^ n)).2=true:=by
   cases hf:(Zm f bt (2 ^ n)).2 with
   |true=>rfl
   |false=>
    have:=(h1 hf).2 m hm;rw[Vt m hm,<-em,k3] at this;cases this
  obtain⟨h3,h4,h5⟩:=h2 hf;rcases k5 _ (Z4o hn h4) (by rw[<-Vt _ h4];exact h3) with k6|k6
  ·exact k6
  ·rcases h5 m hm (by rw[Vt m hm,<-em];exact k3) with rfl|h6
   ·exact em.symm
   ·exfalso;rw[em] at k6;have A1:∀k,(ZN k).length=(bl k).length:=λk=>by simp[ZN]
    rw[A1,A1] at k6;rcases h6 with h6|⟨h6,h7⟩<;>rcases k6 with k6|⟨k6,k7⟩
    ·exact hb.asym _ _ h6 k6
    ·rw[k6] at h6;exact hb.asym _ _ h6 h6
    ·rw[h6] at k6;exact hb.asym _ _ k6 k6
    ·exact(h7.trans (lx_LB k7 (by rw[A1,A1];exact k6))).irrefl
def Zes(r0 r1 r2 r3:Int)(S:List Rs):List Int:=(ZaG (λl=> !Z20 r0 r1 r2 r3 S l) (λa b=>decide (a<b)) ([],false) (chooseR (upL S.length))).1
def Zcy(r0 r1 r2 r3:Int)(S:List Rs):List Int:=(chooseR (upL S.length)).foldl (λb l=>if decide (b.length<l.length)&&Z20 r0 r1 r2 r3 S l then l else b) []
theorem Zc5{S:List Rs}(hc:CardOk r0 r1 r2 r3 S):Z7L r0 r1 r2 r3 S=Zes r0 r1 r2 r3 S:=
 ZaH hc.len bt_lt λk hk=>by
  rw[Z6X hc hk];cases Z20 r0 r1 r2 r3 S (ZN k)<;>rfl
theorem Zc6{S:List Rs}(hc:CardOk r0 r1 r2 r3 S):Z7M r0 r1 r2 r3 S=Zcy r0 r1 r2 r3 S:=by
 have h:=ZaH (n:=S.length) hc.len bt_gt (f:=λk=>Zz (cvS r0 r1 r2 r3 (S.map Ze)) k S.length==true) (g:=Z20 r0 r1 r2 r3 S) λk hk=>by
  rw[Z6X hc hk];cases Z20 r0 r1 r2 r3 S (ZN k)<;>rfl
 refine Eq.trans h ?_;rw[Zcy,chooseR_head,ZaG,VM,VM];have e:Z20 r0 r1 r2 r3 S []=true:=rfl;simp only[e,Bool.not_false,RX,Bool.and_self,XQ,XM,Nat.lt_irrefl,decide_false,QA,YR,XZ];generalize (chooseR (upL S.length)).tail=cs;have key:∀(cs:List (List Int))(b:List Int),(cs.foldl (fun(b:List Int×Bool) l=>if(!b.2||decide ((b.1.length:Int)<(l.length:Int)))&&Z20 r0 r1 r2 r3 S l then(l,true) else b) (b,true)).1=cs.foldl (λb l=>if decide (b.length<l.length)&&Z20 r0 r1 r2 r3 S l then l else b) b:=by
  intro cs
  induction cs with
  |nil=>intro b;rfl
  |cons l cs ih=>
   intro b;rw[VM,VM];have e:((!true||decide ((b.length:Int)<(l.length:Int)))&&Z20 r0 r1 r2 r3 S l)=(decide (b.length<l.length)&&Z20 r0 r1 r2 r3 S l):=by simp
   show(cs.foldl _ (if((!true||decide ((b.length:Int)<(l.length:Int)))&&Z20 r0 r1 r2 r3 S l)=true then(l,true) else(b,true))).1=_;rw[e];by_cases hh:(decide (b.length<l.length)&&Z20 r0 r1 r2 r3 S l)=true
   ·rw[YZ hh,YZ hh];exact ih l
   ·rw[XA hh,XA hh];exact ih b
 exact key cs []
def Z8F(r0 r1 r2 r3:Int)(S:List Rs)(a m k:Int):Int:=firstV (Zy r0 r1 r2 r3 S [Zv a,Z87 m k])
def hitV(x:Int×Int)(m k:Int):Int:=if max x.1 (wrap64 (m - k))=x.1/\min x.2 (wrap64 (m+k))=x.2 then 1 else if min x.2 (wrap64 (m+k))<max x.1 (wrap64 (m - k)) then 2 else 0
def Z6c(r0 r1 r2 r3:Int)(S:List Rs)(a m k:Int):Int:=if Z8F r0 r1 r2 r3 S a m k=0 then hitV (Z4L r0 r1 r2 r3 S a) m k else 0
theorem Zfl{j:Nat}(hn:c≠b)(h:w.heap[c]? =some o):((w.setCell ⟨b,i,none⟩ u).setCell ⟨b,j,none⟩ v).heap[c]? =some o:=
 (set_ne (w:=w.setCell _ _) hn _).trans ((set_ne hn _).trans h)
theorem Zc7(r0 r1 r2 r3:Int)(base:Option Addr)(n cap:Nat)(w:World)(at' mark within:Int)(S:List Rs)(A1:S.length=n)(hS:RawS w base S)(Eb:Most w):
 Calls prog 27 #[.agg #[r0,r1,r2,r3,.slice base n cap],at',mark,within] w λe w'=>
  e= .returned (.tuple #[.int .i64 (Z6c r0 r1 r2 r3 S at' mark within),.int .i64 (Z8F r0 r1 r2 r3 S at' mark within)])/\Ext w w':=by
 go_enter fk Tryz.func27,Tryz.ntmps27;go_wp2_with fail;have Ab:Ext w _:=(((Ext.rfl' w).alloc (.cells #[r0,r1,r2,r3,.slice base n cap] 31)).alloc (.cells #[mark] 3)).alloc (.cells #[within] 3);have hb:(((w.alloc (.cells #[r0,r1,r2,r3,.slice base n cap] 31)).alloc (.cells #[mark] 3)).alloc (.cells #[within] 3)).heap[w.heap.size]? =some (.cells #[r0,r1,r2,r3,.slice base n cap] 31):=by
  simp only[Z3,Z2];rw[XA (by omega),XA (by omega),YZ trivial]
 have hZ:(((w.alloc (.cells #[r0,r1,r2,r3,.slice base n cap] 31)).alloc (.cells #[mark] 3)).alloc (.cells #[within] 3)).heap[w.heap.size+1]? =some (.cells #[mark] 3):=by
  simp only[Z3,Z2];rw[XA (by omega),YZ trivial]
 have hY:(((w.alloc (.cells #[r0,r1,r2,r3,.slice base n cap] 31)).alloc (.cells #[mark] 3)).alloc (.cells #[within] 3)).heap[w.heap.size+1+1]? =some (.cells #[within] 3):=by
  simp only[Z3,Z2];rw[YZ trivial]
 generalize World.alloc _ _=w1 at Ab hb hZ hY⊢;have hX:=Ext.rfl' w1;have q0:=Z0 hb 0;have q1:=Z0 hb 1;have q2:=Z0 hb 2;have q3:=Z0 hb 3;have q4:=Z0 hb 4;simp only[YC,YA,YB] at q0 q1 q2 q3 q4;have g0:=Zet q0;have g1:=Zet q1;have g2:=Zet q2;have g3:=Zet q3;have g4:=Zet q4;have r1':w1.cell? ⟨w.heap.size+1,0,none⟩=some (.int .i64 mark):=by rw[Z0 hZ];rfl
 have r2':w1.cell? ⟨w.heap.size+1+1,0,none⟩=some (.int .i64 within):=by rw[Z0 hY];rfl
 refine Zfn 10 9 10 [0,1,2,3,4,5,6,7] (.cells #[.int .i64 0,.int .i64 0,.int .i64 0,.int .i64 0,.slice none 0 0,.slice none 0 0] 136) (by kernel_rfl) rfl (by kernel_rfl) rfl rfl (λa W=>by simp[go_sem,execOp,Act.eval]) ?_;refine Zfj [0,1,3] (by kernel_rfl) rfl rfl (by kernel_rfl) ?_;simp only[ZeD,YB,YA,YK,YJ]
 repeat (go_big_quiet_step (fail))
 refine XU ?_;refine Zfk 2 rfl (by kernel_rfl) rfl (λW hW=>Zfo (f:=68) (args:= #[at']) (by simp[go_sem,execOp,Act.eval]) ?_);refine(Z9v at' W).mono ?_;rintro e V0 ⟨p0,rfl,hF,Do⟩;refine⟨.func (.func 112) #[] #[.pointer (some ⟨p0,0,none⟩)],rfl,hF,?_⟩;replace hX:=hX.trans (hW.trans hF);clear hF hW;go_simp;refine Zfk 4 rfl (by kernel_rfl) rfl (λW hW=>Zf3 ⟨.slice (some ⟨W.heap.size,0,none⟩) 2 2,W.alloc (.cells #[.func (.func 112) #[] #[.pointer (some ⟨p0,0,none⟩)],.func (.func 71) #[] #[.pointer (some ⟨w.heap.size+1,0,none⟩),.pointer (some ⟨w.heap.size+1+1,0,none⟩)]] 129),by simp[go_sem,execOp,Act.eval],(Ext.rfl' W).alloc _,?_⟩);have B3:=Z30 W #[.func (.func 112) #[] #[.pointer (some ⟨p0,0,none⟩)],.func (.func 71) #[] #[.pointer (some ⟨w.heap.size+1,0,none⟩),.pointer (some ⟨w.heap.size+1+1,0,none⟩)]] [(112,#[],#[.pointer (some ⟨p0,0,none⟩)]),(71,#[],#[.pointer (some ⟨w.heap.size+1,0,none⟩),.pointer (some ⟨w.heap.size+1+1,0,none⟩)])] W.heap.size rfl rfl;have hF:=(hW.alloc (.cells #[.func (.func 112) #[] #[.pointer (some ⟨p0,0,none⟩)],.func (.func 71) #[] #[.pointer (some ⟨w.heap.size+1,0,none⟩),.pointer (some ⟨w.heap.size+1+1,0,none⟩)]] 129));replace hX:=hX.trans hF
 replace Do:=hF.cellS Do;clear hF hW;generalize W.heap.size=B2 at B3⊢;generalize World.alloc W _=V9 at*;go_simp;refine Zfk 5 rfl (by kernel_rfl) rfl (λW hW=>Zfo (f:=67) (args:= #[.agg #[r0,r1,r2,r3,.slice base n cap],.slice (some ⟨B2,0,none⟩) 2 2]) (by simp[go_sem,execOp,Act.eval]) ?_)
 refine(Z4K r0 r1 r2 r3 base n cap W 2 B2 (by omega) [(112,#[],#[.pointer (some ⟨p0,0,none⟩)]),(71,#[],#[.pointer (some ⟨w.heap.size+1,0,none⟩),.pointer (some ⟨w.heap.size+1+1,0,none⟩)])] [Zv at',Z87 mark within] rfl rfl (λj x hj=>hW.cellS (B3 j x hj)) (by intro x hx args w';simp only[XE,XL,VO] at hx;rcases hx with rfl|rfl<;>simp[go_sem]) (by
       intro j x r hj hr w' hw'
       match j,hj,hr with
       |0,hj,hr=>
        obtain rfl:=YT hj;obtain rfl:=YT hr;exact Z3x p0 at' w' ((hW.trans hw').cellS Do)
       |1,hj,hr=>
        obtain rfl:=YT hj;obtain rfl:=YT hr;exact ZcY _ _ mark within w' ((hX.trans (hW.trans hw')).cellS r1') ((hX.trans (hW.trans hw')).cellS r2')) S A1 (hS.ext (Ab.trans (hX.trans hW))) (Eb.ext (Ab.trans (hX.trans hW)))).mono ?_
 rintro e V10 ⟨k0,k1,k2,k3,b4,n4,c4,b5,n5,c5,rfl,hF,Ck⟩;refine⟨.tuple #[.agg #[k0,k1,k2,k3,.slice b4 n4 c4,.slice b5 n5 c5],.int .i64 (firstV (Zy r0 r1 r2 r3 S [Zv at',Z87 mark within]))],rfl,hF,?_⟩;replace hX:=hX.trans (hW.trans hF);have Au:Askd r0 r1 r2 r3 base n cap S [Zv at',Z87 mark within] k0 k1 k2 k3 b4 n4 c4 b5 n5 c5 V10:=λh=>by obtain⟨B,p,h0,h1,h2,h3,h4,h5,h6,h7,h8,h9,hC,_⟩:=Ck h;exact⟨B,p,h0,h1,h2,h3,h4,h5,h6,h7,h8,h9,hC⟩
 clear hF hW Ck B3 Do;go_simp;refine Zfj [6,7,8] (by kernel_rfl) rfl rfl (by kernel_rfl) ?_;simp only[ZeD,YB,YA,YK,YJ]
 repeat (go_big_quiet_step (fail))
 refine XU ?_;refine Zfq (by kernel_rfl) (λW hW b hA Bw Am=> ?_);have Ha:w1.heap.size<=b:=hA.1.1.1;replace hX:=hX.trans hW;replace Au:=Au.ext hW;clear r1' r2';clear hW;go_simp;refine Zfp 2 (by kernel_rfl) (λW hW=> ?_);simp only[VW,VP];replace hX:=hX.trans hW;replace Au:=Au.ext hW;replace Am:=hW.get Am;have Dc:w.heap.size<=b:=by have h1:=Ha;have h2:=Ab.size;omega
 have Ty:=hX.get hZ;have Vu:w.heap.size+1≠b:=by have h1:=Ha;have h2:=Z5 hZ;omega
 have Tz:=hX.get hY;have Vv:w.heap.size+1+1≠b:=by have h1:=Ha;have h2:=Z5 hY;omega
 have Bf:=Ab.trans hX;clear hA Ha Bw hW hX Ab hb q0 q1 q2 q3 q4 g0 g1 g2 g3 g4 hZ hY;have x0:=Z8 Am 0;have x1:=Z8 Am 1;have x2:=Z8 Am 2;have x3:=Z8 Am 3;have x4:=Z8 Am 4;have x5:=Z8 Am 5;have y0:=Z0 Am 0;have y1:=Z0 Am 1;have y2:=Z0 Am 2;have y3:=Z0 Am 3;have y4:=Z0 Am 4;have y5:=Z0 Am 5;simp only[YC,YA,YB] at y0 y1 y2 y3 y4 y5;have Ai:=Z0K Am (.int .i64 k0) (.int .i64 k1) (.int .i64 k2) (.int .i64 k3) (.slice b4 n4 c4) (.slice b5 n5 c5);obtain⟨hX,Dp⟩:=Ai;replace Au:=Au.stored Am Dp;replace Bf:=Dp.before Bf Dc;have Ly:=Dp.get Vu Ty;have Mz:=Dp.get Vv Tz;go_wp2_with fail;generalize ((((((W.setCell ⟨b,0,none⟩ (.int .i64 k0)).setCell ⟨b,1,none⟩ (.int .i64 k1)).setCell ⟨b,2,none⟩ (.int .i64 k2)).setCell ⟨b,3,none⟩ (.int .i64 k3)).setCell ⟨b,4,none⟩ (.slice b4 n4 c4)).setCell ⟨b,5,none⟩ (.slice b5 n5 c5))=X at hX Au Bf Dp Ly Mz⊢;clear Dp Am Dc x0 x1 x2 x3 x4 x5 y0 y1 y2 y3 y4 y5 Ty Tz;refine Zfm ?_;go_wp2_with fail
 ·have A9:(firstV (Zy r0 r1 r2 r3 S [Zv at',Z87 mark within]) !=0)=true:=by assumption
  have C3:¬Z8F r0 r1 r2 r3 S at' mark within=0:=by simpa[Z8F] using A9
  go_ret2;exact⟨by rw[Z6c,XA C3];rfl,Bf⟩
 ·have heq:(firstV (Zy r0 r1 r2 r3 S [Zv at',Z87 mark within]) !=0)=false:=by assumption
  have C3:firstV (Zy r0 r1 r2 r3 S [Zv at',Z87 mark within])=0:=by simpa using heq
  obtain⟨G6,G5,Df,Ny⟩:=Z11 C3;obtain⟨_,h8,_⟩:=Z0i G6;have Cs:=Z0N (G5 (Zv at') (by simp));obtain⟨d,rfl⟩:=VL Cs.1;have Eh:d<=90:=by omega
  obtain⟨B,p',e0,e1,e2,e3,e4,e5,e6,e7,e8,e9,hC⟩:=Au C3;subst k0 k1 k2 k3 b4 n4 c4 b5 n5 c5;have Ec:n<=8:=by omega
  have Bb:=λv w'=>Z08 r0 r1 r2 r3 base n cap v Ec w'
  have hat:=λw' hm' hC'=>Z2Y r0 r1 r2 r3 (.slice base n cap) B n d (2 ^ n - 1) p' (cvS r0 r1 r2 r3 (S.map Ze)) Ec Eh (Z2Z Ec) w' hm' hC'
  have HV:Hid (Z4L r0 r1 r2 r3 S d=atF (cvS r0 r1 r2 r3 (S.map Ze)) (2 ^ n - 1) d n):=by
   show _=_;rw[Z4L,UF,A1]
  have Ee:Hid (Z8F r0 r1 r2 r3 S d mark within=0):=C3;have Fo:=Eb.ext Bf;clear Au G6 G5 Df Ny heq C3 Cs;generalize (2:Int) ^ n - 1=st at Bb hat HV;generalize atF (cvS r0 r1 r2 r3 (S.map Ze)) st d n=V at hat HV;obtain⟨va,vb⟩:=V;have x0:=Z0 hX 0;have x1:=Z0 hX 1;have x2:=Z0 hX 2;have x3:=Z0 hX 3;have x4:=Z0 hX 4;have x5:=Z0 hX 5;simp only[YC,YA,YB] at x0 x1 x2 x3 x4 x5;have c0:=Zet x0;have c1:=Zet x1;have c2:=Zet x2;have c3:=Zet x3;have c4:=Zet x4;have c5:=Zet x5;refine Zfn 6 5 12 [0,1,2,3,4] (.cells #[.int .i64 0,.int .i64 0] 49) (by kernel_rfl) rfl (by kernel_rfl) rfl rfl (λa W=>by simp[go_sem,execOp,Act.eval]) ?_;refine Zfj [0,1,3] (by kernel_rfl) rfl rfl (by kernel_rfl) ?_;simp only[ZeD,YB,YA,YK,YJ]
  repeat (go_big_quiet_step (fail))
  refine XU ?_;refine Zfr 2 (f:=70) (args:= #[.agg #[r0,r1,r2,r3,.slice base n cap,.slice (some ⟨B,0,none⟩) n n]]) (v:= .int .i64 st) (by kernel_rfl) rfl rfl rfl (by kernel_rfl) rfl (λW=>by simp[go_sem,execOp,Act.eval]) (λW _=>Bb _ W) ?_;go_simp;refine Zfr 4 (f:=69) (args:= #[.agg #[r0,r1,r2,r3,.slice base n cap,.slice (some ⟨B,0,none⟩) n n],st,d]) (v:= .agg #[va,vb]) (by kernel_rfl) rfl rfl rfl (by kernel_rfl) rfl (λW=>by simp[go_sem,execOp,Act.eval]) (λW hW=>hat W (Fo.ext hW) (hC.ext hW)) ?_;go_simp;refine Zfq (by kernel_rfl) (λW hW b hA Bw Am=> ?_);obtain⟨bx,rfl⟩:∃bx,bx=b:=⟨_,rfl⟩;have Ak:=hW;clear hW;go_simp;refine Zfp 1 (by kernel_rfl) (λW hW=> ?_);simp only[VW,VP];replace Am:=hW.get Am;have C6:=(Bf.trans Ak).trans hW;have Dc:w.heap.size<=bx:=by have h1:=hA;have h2:=Bf.size;omega
  have Hn:=set_pair Am (.int .i64 va) (.int .i64 vb);have Kr:=(C6.setCell ⟨bx,0,none⟩ (.int .i64 va) Dc).setCell ⟨bx,1,none⟩ (.int .i64 vb) Dc;have g:=Zc Am;have g0:=g.1;have g1:=g.2.1;have g2:=g.2.2.1;have g3:=g.2.2.2;have hZY:=Zfl (w:=W) (b:=bx) (i:=0) (j:=1) (u:= .int .i64 va) (v:= .int .i64 vb) (by have h1:=Z5 Ly;omega) (hW.get (Ak.get Ly));have hYY:=Zfl (w:=W) (b:=bx) (i:=0) (j:=1) (u:= .int .i64 va) (v:= .int .i64 vb) (by have h1:=Z5 Mz;omega) (hW.get (Ak.get Mz));clear Ly Mz;clear g C6 Bf hW Ak Dc hA Bw Fo Bb hat hX x0 x1 x2 x3 x4 x5 c0 c1 c2 c3 c4 c5 hC;go_wp2_with fail;generalize (W.setCell ⟨bx,0,none⟩ (.int .i64 va)).setCell ⟨bx,1,none⟩ (.int .i64 vb)=Y at*;clear g0 g1 g2 g3 Am;refine Zfm ?_;have g:=Zc Hn;have g0:=g.1;have g1:=g.2.1;have g2:=g.2.2.1;have g3:=g.2.2.2;have hm:=Z0 hZY 0;have hw:=Z0 hYY 0;simp only[YC,YA,YB] at hm hw;clear hZY hYY;go_wp2_with (first|(go_at_call 72;refine(Z7i _ _ _ _ _).mono ?_;rintro e w9 ⟨rfl,Bv⟩;have hx9:=Zc (Bv.get Hn);have j0:=hx9.1;have j1:=hx9.2.1;have Lu:bx<w9.heap.size:=Z5 (Bv.get Hn);have hp9:∀(o:Obj)(i:Nat),(w9.alloc o).cell? ⟨bx,i,none⟩=w9.cell? ⟨bx,i,none⟩:=λo i=>World.cell?_alloc_lt _ _ _ Lu))
  all_goals
   go_ret2;refine⟨?_,(Kr.trans Bv).alloc _⟩;rw[Z6c,YZ Ee.out,Ee.out,HV.out];simp at*;rw[hitV]
   first|rw[YZ (by omega)]|(rw[XA (by omega)];first|rw[YZ (by omega)]|rw[XA (by omega)])
end Go.Proofs.Tryq
