import Derived.Test.YthahddndgbpooaaGreatDoorNk07
import Derived.Test.YthahddndgbpooaaGreatDoorNk11
import Derived.Conc.LeavingOf
import Derived.Lay
import Derived.Test.YthahddndgbpooaaGreatDoorCards
import Derived.Test.YthahddndgbpooaaGreatDoorTie
set_option linter.all false
set_option maxRecDepth 100000
open Go
open Go.Proofs.Tryz renaming prog->I
open Option renaming some->J,none->NB
open Bool renaming true->U,false->ND
open Go renaming Value->Z,World->NL,Frame->NN,Goroutine->NR,TypeId->NT,Addr->NP
variable {gs:Array NR}{c' cc:Array Z}{Iy again apart fresh:Bool}{b c fr:NN}{Stop:NN->List NN->NL->Prop}{fn:Func}{f:FuncId}{g:NR}{r0 r1 r2 r3:Int}{bot' bs cs cs':List NN}{B C Ik Wg b0 cap j k l n off sb:Nat}{q ρ:Nat->Nat}{Fz Giv L Sb o o2:Nat->Prop}{ad:Option NP}{P:Program}{t:Trace}{e ty u:NT}{d v x':Z}{V V1 W w w1 w2:NL}
namespace Go.Proofs.Tryv
section
open Go Go.Nk Go.RowKit Go.Conc Go.Conc.Lib Go.ConcR.Gen Go.ConcN.Gen
open Go.ConcN (ShN WgLive PayAt Has CTag)
open Go.ConcR (KK WgAt stA smA rd wr mk Payload DC0)
open Go.Proofs.Tryq (theBan Zh ZH link payload wgLib Grew Sh Z7)
attribute [local instance] theBan
attribute [local instance] payload
section
variable {End A A':(Nat->Prop)->NR->NL->Prop}
def kN(p:∀o g w,A o g w->A' o g w)(h:MKd P ty Wg C n Sb A Giv o g w):MKd P ty Wg C n Sb A' Giv o g w:=by
 obtain⟨i,m,e,r,a⟩:=h;exact⟨i,m,e,r,a.mono (λ_ _ _ h=>h) (λ_ _ _ _ h=>h) p⟩
def pG{v:Nat}(z:∀o g w,A o g w->A' o g w)(h:MW2 P ty Wg C n Sb End A Giv v o g w):MW2 P ty Wg C n Sb End A' Giv v o g w:=by
 obtain⟨a,h⟩:=h;refine⟨a,λx i a=>⟨(h x i a).1,λm=> ?_⟩⟩;obtain⟨y,e,r,p⟩:=(h x i a).2 m;exact⟨y,e,r,p.mono (λ_ _ _ h=>h) (λ_ _ _ _ h=>h) z⟩
def ri(y:∀o g w,A o g w->A' o g w)(h:MW1 P ty Wg C n Sb End A Giv o g w):MW1 P ty Wg C n Sb End A' Giv o g w:=by
 obtain⟨a,h⟩:=h;refine⟨a,λv i a=> ?_⟩;obtain⟨x,e,p,m⟩:=h v i a;refine⟨x,e,p,λa=> ?_⟩;obtain⟨r,i⟩:=m a;exact⟨r,i.mono (λ_ _ _ h=>h) (λ_ _ _ _ h=>h) (λ_ _ _ h=>pG y h)⟩
end
noncomputable def kT:List Item:=[.code (.seq (.region 10 q10 ND) .ret)]
def AnW(N n:Nat)(cc:Array Z)(sh:Nat->Obj->Prop)(cs:List NN)(o:Nat->Prop)(g:NR)(w:NL):Prop:=
 ∃m,Hm N n n m/\JD link (λo w=>Mn N n cc sh o w) (N+3) ((base 114).at (ZD 23 m []) (.inRegion q9 [0]::kT)) cs o g w
def EnW(N n:Nat)(cc:Array Z)(sh:Nat->Obj->Prop)(cs:List NN)(o:Nat->Prop)(g:NR)(w:NL):Prop:=
 ∃m,Hm N n n m/\g=G ((base 114).at (ZD 23 m []) (.inRegion q9 []::kT)) cs/\Mn N n cc sh o w
section
variable {N:Nat}{sh:Nat->Obj->Prop}
def anW_running:∀o g w,AnW N n cc sh cs o g w->g.status= .running:=by
 rintro o g w ⟨m,_,T,rfl,_⟩;rfl
def enW_running:∀o g w,EnW N n cc sh cs o g w->g.status= .running:=by
 rintro o g w ⟨m,_,rfl,_⟩;rfl
def waitFn_body:(waitFn link).body=J (body_wait link):=rfl
def waitFn_ntmps:(waitFn link).ntmps=84:=rfl
def gu(Giv o:Nat->Prop)(w:NL)(m:Nat->Z)(z:Hm N n n m)(i:Mn N n cc sh o w):
 ∃t,GoT I U (RMo link.tWg (N+3) (N+1) n) (DMo (N+3) Sb Giv) (MKd I link.tWg (N+3) (N+1) n Sb (AnW N n cc sh cs) Giv) t o (G ((base 114).at (ZD 23 m []) [.code T82]) cs) w:=by
 have h:=GV N n cc sh;rw[T82_eq];refine ZB h rfl (λw=>XJ) i λw i=> ?_
 refine ZB h rfl (λw=>UQ) i λw i=> ?_
 rw[q9_size];obtain⟨_,h,_,E,p⟩:=q9_0;refine GoT.step rfl λx K=> ?_
 have y:=i.rely K;have K:(#[Operand.tmp 4]:Array Operand).map (Zd 23 m)= #[.pointer (J ⟨N+3,0,NB⟩)]:=by
  have e1:Zd 23 m (.tmp 4)= .pointer (J ⟨N+3,0,NB⟩):=z.t4;simp only[TD,VG,VX,e1]
 obtain⟨e1,e2⟩:=ag (w:=x) (m:=m) wgLib.f_wait (nm_wait link) rfl E K;have e:=stepG_enter (main:=U) (b:=base 114) (k:=kT) (cs:=cs) (rest:=[]) (a:=ZD 23 m []) h (PI p _) OC (by rw[actM_eval];exact e1);rw[enter_at _ wgLib.f_wait waitFn_body]at e;obtain⟨r,p⟩:=nd (L:=link) (Wg:=N+3) (C:=N+1) (n:=n) (Sb:=Sb) (F:=λo w=>Mn N n cc sh o w) (b₀:=base 114) (a₀:=ZD 23 m []) (ops₀:=q9) (i₀:=0) (rest₀:=[]) (k₀:=kT) (cs:=cs) wgLib Giv o (λo w _ p h=>h.rely p) x ⟨y,y.live⟩;have p:=p.mono (λ_ _ _ h=>h) (λ_ _ _ _ h=>h) (λ_ _ _ h=>kN (A':=AnW N n cc sh cs) (λo g w h=>⟨m,z,h⟩) h);refine⟨_,x,_,r,e,⟨λ_ _ _=>rfl,XA _,rfl,rfl,rfl,λh x=> ?_⟩,?_⟩
 .have:=RK x;rw[actM_eval]at this;exact(e2 h this).elim
 .rw[WI rfl,waitFn_ntmps];simp only[UG,YP,XW,Nat.reduceAdd,Nat.reduceSub,TF,TE,TM,TG,YJ,YK,VD];exact p
def pM(Giv o:Nat->Prop)(g:NR)(w:NL)(h:AnW N n cc sh cs o g w):
 ∃r,GoT I U (RMo link.tWg (N+3) (N+1) n) (DMo (N+3) Sb Giv) (MW1 I link.tWg (N+3) (N+1) n Sb (EnW N n cc sh cs) (AnW N n cc sh cs) Giv) r o g w:=by
 obtain⟨m,p,h⟩:=h
 obtain⟨r,a⟩:=nO (L:=link) (Wg:=N+3) (C:=N+1) (n:=n) (Sb:=Sb) (End:=EnW N n cc sh cs) (F:=λo w=>Mn N n cc sh o w) (b₀:=base 114) (a₀:=ZD 23 m []) (ops₀:=q9) (i₀:=0) (rest₀:=[]) (k₀:=kT) (cs:=cs) wgLib OA (λo w _ a h=>h.rely a) (λo w h=>h.oW)
  (λGiv o w z _=>by
    obtain⟨_,i,x,_,_⟩:=q9_0;have y:(q9[0]?).bind (·.dst)=J 21:=(by rw[i];exact x);rw[y,Kl];exact⟨.leaf,GoT.stop _ λ_ a=>⟨_,p.up OC,rfl,z.rely a⟩⟩) Giv o g w h
 exact⟨r,a.mono (λ_ _ _ h=>h) (λ_ _ _ _ h=>h) (λ_ _ _ h=>ri (λo g w h=>⟨m,p,h⟩) h)⟩
end
end
section
open Go Go.Nk Go.RowKit Go.Conc Go.Conc.Lib Go.ConcR.Gen Go.ConcN.Gen
open Go.ConcN (ShN WgLive PayAt Has CTag)
open Go.ConcR (KK WgAt stA smA rd wr mk Payload DC0)
open Go.Proofs.Tryq (theBan Zh Zg ZH T8 link payload wgLib Grew Sh ShotAt Z7)
attribute [local instance] theBan
attribute [local instance] payload
def AK{x:MemAct}{W:Nat}(h:x.low B)(E:B<=W):Ur W x:=by
 constructor
 .intro y hy;cases x with
  |access e=>
   simp only[MemAct.touch?,XM]at hy;subst hy;rintro⟨a,i,p⟩;have h:e.loc.low B:=h;have i:e.loc= .cell a:=i;rw[i]at h;have h:a.block<B:=h;omega
  |mark m=>
   cases m with
   |read a=>
    simp only[MemAct.touch?,XM]at hy;subst hy;rintro⟨z,i,p⟩;cases i;have h:a.block<B:=h;omega
   |write a=>
    simp only[MemAct.touch?,XM]at hy;subst hy;rintro⟨z,i,p⟩;cases i;have h:a.block<B:=h;omega
   |_=>cases hy
  |_=>cases hy
 .rintro rfl;have h:(stA W).block<B:=h;have e:(stA W).block=W:=rfl;omega
def kF{e:Event}(h:Event.mute e=U)(W:Nat):Ur W (MemAct.ofEvent e):=AK (low_mute (B:=0) h) (XL _)
def ResQ(cc:Array Z)(r0 r1 r2 r3:Int)(S:List Sh)(k:Nat)(o:Nat->Prop)(v:Z)(w:NL):Prop:=
 ∃(s:Sh)(β:Nat->Nat),S[k]? =J s/\v= .pointer (J ⟨β 1,0,NB⟩)/\Tryw.Five cc r0 r1 r2 r3 s o β w
def nl(cc:Array Z)(r0 r1 r2 r3:Int)(S:List Sh):ResOk (ResQ cc r0 r1 r2 r3 S):=by
 rintro k o v w _ i ⟨s,β,p,a,h,m,x⟩;exact⟨s,β,p,a,h,λj a=>(i _ (h j a)).trans (m j a),x⟩
section
variable {sh:Nat->Obj->Prop}{Res:Nat->(Nat->Prop)->Z->NL->Prop}
def PK(N:Nat)(w:NL)(b:Nat):Prop:=b<w.heap.size/\b≠N+1/\b≠N+3
def oE{m:Nat->Z}{sl:Option (Nat×Nat)}(hn:n<=8)(y:∀b,Sb b->b<w.heap.size)(z:Grew w w1 (N4 cc w.heap.size n))(E:Hm w.heap.size n 0 m)
 (p:MacM I Sb ((base 114).at (ZD 23 m []) (.code L82::kL)) cs gs w1 t q)(F:∀op∈t,Ur (w.heap.size+3) op.act)(O:∀b x,sh b x->b<w.heap.size/\w.heap[b]? =J x)(hR:ResOk Res)
 (X:∀j o w1 Ik,j<n->MnI w.heap.size n cc sh Ik j o w1->¬Sb Ik->w.heap.size+3<Ik->(∀b,Sb b->b<w.heap.size)->PayAt (w.heap.size+1) n w1->LA I link.tWg (w.heap.size+3) (w.heap.size+1) n Sb Res j o (born I (MX w.heap.size Ik)) w1):
 ∃K h a,runNT I K (crowd gs w1 sl) t=(.next h,a)/\KU I (w.heap.size+3) (w.heap.size+1) n Sb Res (EnW w.heap.size n cc sh cs) w1 (PK w.heap.size w1) h a:=by
 have a:w1.heap.size=w.heap.size+4:=z.size;have new:∀i,i<4->w1.heap[w.heap.size+i]? =(N4 cc w.heap.size n)[i]? :=λi hi=>z.new i hi
 have M:WgAt link.tWg (w.heap.size+3) w1 0 0:=new 3 OA;have F7:PayAt (w.heap.size+1) n w1:=⟨_,new 1 OA,T8 _ _ _⟩;have Xq:Mn w.heap.size n cc sh (PK w.heap.size w1) w1:=by
  refine⟨new 0 OA,new 2 OA,⟨_,_,M⟩,⟨OA,OA,OA⟩,⟨OA,OA,OA⟩,λh=>h.2.1 rfl,λh=>h.2.2 rfl,λb a=>a.1,OA,λb x a=> ?_⟩;obtain⟨T,K⟩:=O b x a;exact⟨⟨OA,OA,OA⟩,(z.old b T).trans K⟩
 have T:GeoN (w.heap.size+3) (w.heap.size+1) Sb w1 0 (λ_ _=>False) (λ_ _=>False) (PK w.heap.size w1) (PK w.heap.size w1):=
  ⟨λk K=>by omega,λk _ K=>by omega,λb a=>⟨a.1,a.2.2,a.2.1⟩,λk K=>by omega,λb a=>a,λb a=>⟨by have:=y b a;omega,by have:=y b a;omega,by have:=y b a;omega⟩,OA,OA,OA⟩
 have Dt:=rm (Sb:=Sb) (Res:=Res) (A:=AnW w.heap.size n cc sh cs) (cs:=cs) hn y (λb x a=>(O b x a).1) (λj o w1 Ik hj Y hs x K=>X j o w1 Ik hj Y hs x y K) (λGiv o w m E p=>gu Giv o w m E p) n 0 m (PK w.heap.size w1) (PK w.heap.size w1) w1 OA E Xq (λb a=>a.1);refine mV (sl:=sl) hR OA anW_running enW_running (λGiv o g w h=>pM Giv o g w h) p.main p.leave p.past (XA _) (λop h x K=>(F op h).1 x K) (λi hi=> ?_) (λi op hi=>p.who op (Array.mem_of_getElem? hi)) M F7 T (λb a=>a) Dt (λb a=>rfl) rfl rfl rfl (XA _);obtain⟨op,h,a⟩:=VA.1 hi;exact(F op (Array.mem_of_getElem? h)).2 a
def fK(p:fr.tmps.getD 2 undef=v)(a:fr.fn=114)(m:fr.kind= .normal)(h:fr.mode= .returning)(i:fr.defers=[]):stepG I U (G fr (c::cs)) w= .go (G (c.finish v) cs) w #[]:=by
 have x:(results Tryz.f114 fr.tmps).runT I w #[]=(.ok v w,#[]):=by rw[<-p];simp[results,f82_results]
 have e1:stepG I U (G fr (c::cs)) w=unwind I U fr (c::cs) NB w:=by simp only[G,stepG,h]
 rw[e1];simp only[unwind,i,h,a,Tryz.func114,x,doReturn,m];simp[GStep.after,seen,G]
def ev82(M:Nat->Z)(k:List Item){v:Z}(h:M 2=v):({(base 114).at (ZD 23 M []) k with mode:= .returning}:NN).tmps.getD 2 undef=v:=by
 have e:({(base 114).at (ZD 23 M []) k with mode:= .returning}:NN).tmps=(ZD 23 M []).tmps:=rfl;rw[e,<-h];have:=congrFun (actM_eval (n:=23) (m:=M) (ds:=[])) (.tmp 2);simpa only[Act.eval,Zd,YZ (show(2:Nat)<23 by decide)]using this
def fU{N:Nat}{m:Nat->Z}(E:m 3= .pointer (J ⟨N+2,0,NB⟩))(O:w.cell? ⟨N+2,0,NB⟩=J (.slice (J ⟨N+1,0,NB⟩) n n))(F:¬Sb (N+2))(M:N+2<w.heap.size)
 (z:∀d,Stop (c.finish (.slice (J ⟨N+1,0,NB⟩) n n)) cs (w.at d)):∃K,OwnTo I Sb (Ur (N+3)) Stop K ((base 114).at (ZD 23 m []) (.inRegion q9 []::kT)) (c::cs) w:=by
 have y:(base 114).kind≠.early:=OC
 refine own_c (λw=>XD) ?_;refine own_c (λw=>XJ) ?_;refine own_c (λw=>UQ) ?_;rw[q10_size];obtain⟨o,p,h,i,x⟩:=q10_0;refine own_v y p h x (XA _) (GI (a:=⟨N+2,0,NB⟩) i (.inr rfl) OC E O F M (by show N+2≠_;omega)) ?_;obtain⟨o,p,h,i,x⟩:=q10_1;refine Ph y p h x (λx=>Et (s:=22) i (.inl rfl) OC) ?_;refine own_c (λw=>XD) ?_;refine own_c (λw=>SQ) ?_;refine own_c (λw=>fK (ev82 _ _ rfl) rfl rfl rfl rfl) ?_;exact⟨0,λd=>z d⟩
end
end
section
open Go Go.Nk Go.RowKit Go.Conc Go.Conc.Lib
open Go.ConcN (ShN WgLive PayAt Has CTag)
open Go.Proofs.Tryq (theBan Zh Zg ZH T8 link payload wgLib Grew Sh ShotAt Shots shO kO)
attribute [local instance] theBan
attribute [local instance] payload
def lN{N:Nat}{S:List Sh}{s:Sh}{c:Array Z}{f z:Nat×Nat}(hj:j<n)(hs:S[j]? =J s)(x:s.c<=90)(hS:ShotAt V sb (off+j*5) s.c s.m s.M s.wi s.li)
 (hV:V.heap[sb]? =J (.cells c e f))(y:AR ρ (Nk.Live V) c c')(Cr:ρ sb<Tryz.prog.globals.size↔sb<Tryz.prog.globals.size)(E:Tryz.prog.globals.size<=V.heap.size)(a0:Tryz.prog.globals.size<=N)
 (F:∀b,Sb b->b<N)(Hn:¬Sb (ρ sb))(A5:ρ sb<N)
 (hI:MnI N n (Zg r0 r1 r2 r3 (ρ sb) off n cap) (λb X=>b=ρ sb/\X= .cells c' e z) Ik j o w)(Ot:¬Sb Ik)(Lc:N+3<Ik)(hp:PayAt (N+1) n w):
 LA I link.tWg (N+3) (N+1) n Sb (ResQ (Zg r0 r1 r2 r3 (ρ sb) off n cap) r0 r1 r2 r3 S) j o (born I (MX N Ik)) w:=by
 let K:Tryw.KE:={Bx:=N,Ob:=N+2,Ik:=Ik,C:=N+1,Wg:=N+3,n:=n,k:=j,off:=off,cap:=cap,sb:=sb,r0:=r0,r1:=r1,r2:=r2,r3:=r3,s:=s,V:=V,ρ:=ρ,Sb:=Sb,Rd:=o,L:=Nk.Live V,c:=c,c':=c',e:=e,f:=f,f':=z}
 obtain⟨a,Rx,p⟩:=hI;have O:=a.sh (ρ sb) _ ⟨rfl,rfl⟩;have T:K.Ok:=by
  refine⟨hj,x,hS,hV,y,Cr,E,λb i=> ?_,λb i=> ?_⟩
  .show o b/\¬Sb b;have i:b=N+2\/b=Ik\/b=N\/b=ρ sb:=i;rcases i with h|h|h|h
   .rw[h];exact⟨a.oO,λh=>by have:=F _ h;omega⟩
   .rw[h];exact⟨Rx,Ot⟩
   .rw[h];exact⟨a.oN,λh=>by have:=F _ h;omega⟩
   .rw[h];exact⟨O.1,Hn⟩
  .show b≠N+1;have i:b=N+3\/b=N+2\/b=Ik\/b=N\/b=ρ sb:=i;omega
 have hB:Tryw.Base K (λ_=>False) w:=by
  refine⟨⟨?_,?_,⟨_,a.box⟩,O.2,⟨?_,?_⟩,a.live,hp⟩,λ_ _ h=>h⟩
  .show w.cell? ⟨N+2,0,NB⟩=_;simp only[World.cell?,a.out];rfl
  .show w.cell? ⟨Ik,0,NB⟩=_;simp only[World.cell?,p];rfl
  .have:=a.sz;omega
  .have:=a.sz;show N+1<_;omega
 obtain⟨r,hr⟩:=Tryw.kid_works T hB;refine⟨r,hr.mono (λ_ _ _ h=>h) (λ_ _ _ _ h=>h) λo g w h=> ?_⟩;obtain⟨v,⟨β,hv,Y⟩,hA⟩:=h;exact⟨v,⟨s,β,hs,hv,Y⟩,hA⟩
def ff(h:VRel ρ L (.agg (Zh r0 r1 r2 r3 ad n cap)) x'):x'= .agg (Zh r0 r1 r2 r3 (ad.map (Zl ρ)) n cap):=by
 cases h with
 |agg z E=>
  rename_i c';congr 1;have F:c'.size=5:=by rw[<-z];rfl
  have m:∀(i:Nat)(v p:Z),(Zh r0 r1 r2 r3 ad n cap)[i]? =J v->c'[i]? =J p->VRel ρ L v p:=λi v p K a=>by
   obtain⟨y,x,M⟩:=AR.get (⟨z,E⟩:AR ρ L _ _) K;rw[a]at x;cases x;exact M
  apply Array.ext_getElem?;intro i;rcases VC i 5 with hi|hi
  .obtain⟨p,a⟩:∃p,c'[i]? =J p:=⟨_,YN OA⟩;rw[a];obtain rfl|rfl|rfl|rfl|rfl:i=0\/i=1\/i=2\/i=3\/i=4:=OA
   .have:=m 0 _ _ rfl a;cases this;rfl
   .have:=m 1 _ _ rfl a;cases this;rfl
   .have:=m 2 _ _ rfl a;cases this;rfl
   .have:=m 3 _ _ rfl a;cases this;rfl
   .have:=m 4 _ _ rfl a;cases this<;>rfl
  .rw[Array.getElem?_eq_none OA,Array.getElem?_eq_none (by simp[Zh];omega)]
end
section
open Go Go.Nk Go.RowKit Go.Conc Go.Conc.Lib
open Go.ConcN (ShN WgLive PayAt Has CTag)
open Go.Proofs.Tryq (theBan Zh Zg ZH T8 Om link payload wgLib Grew Sh ShotAt Shots shO kO Ni Xi)
attribute [local instance] theBan
attribute [local instance] payload
def flat5(f:Sh->List Obj)(a:∀s,(f s).length=5):∀(S:List Sh)(k j:Nat),j<5->(S.flatMap f)[5*k+j]? =(S[k]?).bind λs=>(f s)[j]? :=by
 intro S
 induction S with
 |nil=>intro k j _;simp
 |cons s S h=>
  intro k j i;rw[UN];cases k with
  |zero=>
   rw[List.getElem?_append_left (by rw[a];omega)];simp
  |succ k=>
   rw[List.getElem?_append_right (by rw[a];omega),a];rw[show 5*(k+1)+j - 5=5*k+j by omega,h k j i];simp
def lF(cc:Array Z)(r0 r1 r2 r3:Int)(s:Sh):(shO cc r0 r1 r2 r3 s).length=5:=rfl
def jo{S:List Sh}{s:Sh}(i:S.length=n)(h:S[k]? =J s)(a:j<5):(kO cc r0 r1 r2 r3 S B n)[1+5*k+j]? =(shO cc r0 r1 r2 r3 s)[j]? :=by
 rw[show 1+5*k+j=(5*k+j)+1 by omega];simp only[kO,YB];rw[<-i,TC,flat5 _ (lF cc r0 r1 r2 r3) S k j a,h];rfl
def FZ{c:Array Z}(hi:∀i,i<c.size->∃k n,c.getD i undef= .int k n):AR ρ L c c:=
 ⟨rfl,λi h=>by obtain⟨k,n,e⟩:=hi i h;rw[e];exact .int k n⟩
def eh(h:∀a,ad=J a->L a.block):AR ρ L (Zh r0 r1 r2 r3 ad n cap) (Zh r0 r1 r2 r3 (ad.map (Zl ρ)) n cap):=by
 have i:VRel ρ L (.slice ad n cap) (.slice (ad.map (Zl ρ)) n cap):=by
  cases ad with|none=>exact .nilSlice n cap|some a=>exact .slice n cap (h a rfl)
 exact((((AR.nil.push (.int _ r0)).push (.int _ r1)).push (.int _ r2)).push (.int _ r3)).push i
def eK(s:Sh)(h:∀a,ad=J a->L a.block){j:Nat}{o:Obj}(p:j<5)(m:(shO (Zh r0 r1 r2 r3 ad n cap) r0 r1 r2 r3 s)[j]? =J o):
 ∃a,(shO (Zh r0 r1 r2 r3 (ad.map (Zl ρ)) n cap) r0 r1 r2 r3 s)[j]? =J a/\ORel ρ L U o a:=by
 have a:=eh (ρ:=ρ) (r0:=r0) (r1:=r1) (r2:=r2) (r3:=r3) (n:=n) (cap:=cap) h;obtain rfl|rfl|rfl|rfl|rfl:j=0\/j=1\/j=2\/j=3\/j=4:=OA
 .cases m;exact⟨_,rfl,.cells a λ_=>rfl⟩
 .cases m;exact⟨_,rfl,.cells (FZ (Tryw.part_ints _ _ _ _ _ _ _)) λ_=>rfl⟩
 .cases m;exact⟨_,rfl,.cells a λ_=>rfl⟩
 .cases m;refine⟨_,rfl,.cells (FZ λi hi=> ?_) λ_=>rfl⟩;have hi:i<2:=hi;obtain rfl|rfl:i=0\/i=1:=OA
  all_goals exact⟨_,_,rfl⟩
 .cases m;refine⟨_,rfl,.cells (FZ λi hi=> ?_) λ_=>rfl⟩;have hi:i<5:=hi;obtain rfl|rfl|rfl|rfl|rfl:i=0\/i=1\/i=2\/i=3\/i=4:=OA
  all_goals exact⟨_,_,rfl⟩
def nI{G:Nat}{S:List Sh}{O:Nat->Nat->Prop}(hE:Emb ρ G Fz V w)(A1:S.length=n)(Oi:∀a,ad=J a->Nk.Live V a.block)
 (hV:Grew V V1 (kO (Zh r0 r1 r2 r3 ad n cap) r0 r1 r2 r3 S V.heap.size n))(hW:Grew w w1 (N4 (Zh r0 r1 r2 r3 (ad.map (Zl ρ)) n cap) w.heap.size n))(U2:∀b,PK w.heap.size w1 b->w2.heap[b]? =w1.heap[b]?)(Ba:w1.heap.size<=w2.heap.size)(D1:∀b,PK w.heap.size w1 b->o2 b)
 (F7:PayAt (w.heap.size+1) n w2)(B6:∀k,k<n->∃v,Has (w.heap.size+1) k v w2/\ResQ (Zh r0 r1 r2 r3 (ad.map (Zl ρ)) n cap) r0 r1 r2 r3 S k (O k) v w2)
 (hO:∀k,k<n->∀b,O k b->b<w2.heap.size/\b≠w.heap.size+3/\b≠w.heap.size+1/\¬o2 b)(Nm:∀k T,k<n->T<n->k≠T->∀b,O k b->¬O T b):
 ∃ρ1:Nat->Nat,(∀b,Nk.Live V b->ρ1 b=ρ b)/\ρ1 V.heap.size=w.heap.size+1/\Emb ρ1 G Fz V1 w2/\(∀b,Nk.Live V b->Nk.Live V1 b)/\(∀b,Nk.Live V1 b->Nk.Live V b\/(w.heap.size<=ρ1 b/\ρ1 b≠w.heap.size+3))/\Nk.Live V1 V.heap.size/\(∀(b:Nat)(l:Loop),V1.heap[b]? =J (Obj.loop l)->V.heap[b]? =J (Obj.loop l)):=by
 classical
 have hk:∀k,∃β:Nat->Nat,k<n->Has (w.heap.size+1) k (.pointer (J ⟨β 1,0,NB⟩)) w2/\∃s,S[k]? =J s/\Tryw.Five (Zh r0 r1 r2 r3 (ad.map (Zl ρ)) n cap) r0 r1 r2 r3 s (O k) β w2:=by
  intro k;by_cases y:k<n
  .obtain⟨v,K,s,β,h2,X,h4⟩:=B6 k y;subst X;exact⟨β,λ_=>⟨K,s,h2,h4⟩⟩
  .exact⟨id,λh=>absurd h y⟩
 let β:Nat->Nat->Nat:=λk=>Classical.choose (hk k)
 have hβ:∀k,k<n->Has (w.heap.size+1) k (.pointer (J ⟨β k 1,0,NB⟩)) w2/\∃s,S[k]? =J s/\Tryw.Five (Zh r0 r1 r2 r3 (ad.map (Zl ρ)) n cap) r0 r1 r2 r3 s (O k) (β k) w2:=λk y=>QE (hk k) y
 clear_value β
 have Bo:w1.heap.size=w.heap.size+4:=hW.size;have Be:∀k j,k<n->j<5->w.heap.size+4<=β k j/\β k j<w2.heap.size:=by
  intro k j y E;obtain⟨_,s,_,h5⟩:=hβ k y;obtain⟨K,h2,X,h4⟩:=hO k y _ (h5.1 j E);refine⟨Nat.le_of_not_lt λA5=>h4 (D1 _ ⟨OA,X,h2⟩),K⟩
 let ρ1:Nat->Nat:=λb=>if b<V.heap.size then ρ b else if b=V.heap.size then w.heap.size+1 else β ((b - V.heap.size - 1) / 5) ((b - V.heap.size - 1) % 5)
 have e0:∀b,b<V.heap.size->ρ1 b=ρ b:=λb x=>YZ x
 have e1:ρ1 V.heap.size=w.heap.size+1:=by
  show(if V.heap.size<V.heap.size then _ else if V.heap.size=V.heap.size then _ else _)=_;rw[XB OA,YZ rfl]
 have e2:∀k j,j<5->ρ1 (V.heap.size+(1+5*k+j))=β k j:=by
  intro k j E;show(if _ then _ else if _ then _ else _)=_;rw[XB OA,XB OA];rw[show V.heap.size+(1+5*k+j) - V.heap.size - 1=5*k+j by omega,show(5*k+j) / 5=k by omega,show(5*k+j) % 5=j by omega]
 clear_value ρ1
 have a9:V1.heap.size=V.heap.size+(1+5*n):=by rw[hV.size,Ni _ _ _ _ _ _ _ _ OA]
 have Xj:∀b,Nk.Live V b->Nk.Live V1 b:=by
  rintro b ⟨o,K,h2⟩;exact⟨o,(hV.old b (YF.1 K).1).trans K,h2⟩
 have hm:∀b,Nk.Live V b->Nk.Live V1 b/\ρ1 b=ρ b:=λb x=>⟨Xj b x,e0 b x.lt⟩
 have m:∀b,b<V1.heap.size->b<V.heap.size\/b=V.heap.size\/∃k j,k<n/\j<5/\b=V.heap.size+(1+5*k+j):=by
  intro b x;rcases QV b V.heap.size with h|h|h
  .exact .inl h
  .exact .inr (.inl h)
  .exact .inr (.inr ⟨(b - V.heap.size - 1) / 5,(b - V.heap.size - 1) % 5,OA,OA,OA⟩)
 have a0:V1.heap[V.heap.size]? =J (.cells (ZH V.heap.size n n) 188):=by
  have:=hV.new 0 (by rw[Ni _ _ _ _ _ _ _ _ OA];omega);rw[RS]at this;rw[this,<-A1];simp only[kO,YA]
 have a1:∀k j s,k<n->j<5->S[k]? =J s->V1.heap[V.heap.size+(1+5*k+j)]? =(shO (Zh r0 r1 r2 r3 ad n cap) r0 r1 r2 r3 s)[j]? :=by
  intro k j s y E hs;rw[hV.new _ (by rw[Ni _ _ _ _ _ _ _ _ OA];omega),jo A1 hs E]
 have a3:∀k j,k<n->j<5->Nk.Live V1 (V.heap.size+(1+5*k+j)):=by
  intro k j y E;obtain⟨_,s,hs,_⟩:=hβ k y;have K:=a1 k j s y E hs;obtain rfl|rfl|rfl|rfl|rfl:j=0\/j=1\/j=2\/j=3\/j=4:=OA
  all_goals exact⟨_,K,rfl⟩
 have M:∀b,Nk.Live V b->ρ b<w.heap.size:=by
  rintro b ⟨o,K,h2⟩;obtain⟨o',X,_⟩:=hE.obj b o K h2;exact(YF.1 X).1
 have z:∀b,Nk.Live V1 b->b<V1.heap.size:=λb x=>x.lt
 have p:∀b,Nk.Live V1 b->b<V.heap.size->Nk.Live V b:=by
  rintro b ⟨o,K,h2⟩ x;exact⟨o,(hV.old b x).symm.trans K,h2⟩
 have a6:ad.map (Zl ρ1)=ad.map (Zl ρ):=by
  cases ad with|none=>rfl|some a=>simp[Zl,(hm _ (Oi a rfl)).2]
 refine⟨ρ1,λb x=>(hm b x).2,e1,⟨λb o x hl=> ?_,λb b' x a2 Y=> ?_,λb x=>by have:=hE.fz b x;omega,λb x=> ?_,by have:=hE.gV;omega,by have:=hE.gw;omega⟩,Xj,λb x=> ?_,⟨_,a0,rfl⟩,λb l x=> ?_⟩
 .rcases m b (YF.1 x).1 with h|rfl|⟨k,j,y,E,rfl⟩
  .rw[hV.old b h]at x;obtain⟨o',K,h2,X⟩:=hE.obj b o x hl;have A5:ρ b<w.heap.size:=(YF.1 K).1;refine⟨o',?_,λhz=>(h2 hz).mono hm,λhz=>⟨(X hz).1.mono hm,(X hz).2⟩⟩;rw[e0 b h,U2 _ ⟨OA,OA,OA⟩,hW.old _ A5];exact K
  .rw[a0]at x;cases x;obtain⟨arr,Fr,Tt⟩:=F7;refine⟨.cells arr 188,by rw[e1];exact Fr,λ_=> .cells ?_ (λ_=>rfl),λh=>absurd (hE.fz _ h) OA⟩;refine AR.mk (by rw[T8,Tt]) λi v _ hv a5=> ?_
   have Ao:i<n:=by have:=(YF.1 hv).1;rwa [T8]at this
   rw[Om Ao,YZ Ao]at hv;cases hv;have X:=(hβ i Ao).1;unfold Has at X;simp only[World.cell?,Fr]at X;have X:arr[i]? =J (.pointer (J ⟨β i 1,0,NB⟩)):=X;rw[X]at a5;cases a5;have:=VRel.ptr (ρ:=ρ1) (L:=Nk.Live V1) (a:=⟨V.heap.size+(1+5*i+1),0,NB⟩) (a3 i 1 Ao OA);simp only[Zl,e2 i 1 OA]at this;rw[show V.heap.size+1+5*i+1=V.heap.size+(1+5*i+1) by omega];exact this
  .obtain⟨_,s,hs,h5⟩:=hβ k y;rw[a1 k j s y E hs]at x;obtain⟨o',K,h2⟩:=eK (ρ:=ρ1) (L:=Nk.Live V1) s (λa ha=>Xj _ (Oi a ha)) E x;rw[a6]at K;exact⟨o',by rw[e2 k j E,h5.2.1 j E];exact K,λ_=>h2,λh=>absurd (hE.fz _ h) OA⟩
 .have Aw:=z b x;have Qi:=z b' a2;rcases m b Aw with h|rfl|⟨k,j,y,E,rfl⟩
  .have Ry:=p b x h;have A5:=M b Ry;rw[e0 b h]at Y;rcases m b' Qi with h'|rfl|⟨T,j',Jl,F,rfl⟩
   .rw[e0 b' h']at Y;exact hE.inj b b' Ry (p b' a2 h') Y
   .rw[e1]at Y;omega
   .rw[e2 T j' F]at Y;have:=Be T j' Jl F;omega
  .rw[e1]at Y;rcases m b' Qi with h'|rfl|⟨T,j',Jl,F,rfl⟩
   .rw[e0 b' h']at Y;have:=M b' (p b' a2 h');omega
   .rfl
   .rw[e2 T j' F]at Y;have:=Be T j' Jl F;omega
  .rw[e2 k j E]at Y;have U3:=Be k j y E;rcases m b' Qi with h'|rfl|⟨T,j',Jl,F,rfl⟩
   .rw[e0 b' h']at Y;have:=M b' (p b' a2 h');omega
   .rw[e1]at Y;omega
   .rw[e2 T j' F]at Y;obtain⟨_,s,_,h5⟩:=hβ k y;obtain⟨_,_,_,a7⟩:=hβ T Jl;by_cases a4:k=T
    .subst a4;have:=h5.2.2 j j' E F Y;subst this;rfl
    .exact(Nm k T y Jl a4 _ (h5.1 j E) (by rw[Y];exact a7.1 j' F)).elim
 .have hgV:=hE.gV;have a8:=hE.gw;rcases m b (z b x)with h|rfl|⟨k,j,y,E,rfl⟩
  .rw[e0 b h];exact hE.low b (p b x h)
  .rw[e1];omega
  .rw[e2 k j E];have:=Be k j y E;omega
 .rcases m b (z b x)with h|rfl|⟨k,j,y,E,rfl⟩
  .exact .inl (p b x h)
  .right;rw[e1];omega
  .right
   rw[e2 k j E];have:=Be k j y E;omega
 .rcases m b (YF.1 x).1 with h|rfl|⟨k,j,y,E,rfl⟩
  .exact(hV.old b h).symm.trans x
  .rw[a0]at x;cases x
  .obtain⟨_,s,hs,_⟩:=hβ k y;rw[a1 k j s y E hs]at x;obtain rfl|rfl|rfl|rfl|rfl:j=0\/j=1\/j=2\/j=3\/j=4:=OA
   all_goals cases x
def ls{X:MemAct->Prop}:∀{n:Nat}{fr:NN}{cs:List NN}{w:NL},OwnTo P Sb X Stop n fr cs w->OwnTo P Sb (λ_=>True) Stop n fr cs w:=by
 intro n
 induction n with
 |zero=>exact λh=>h
 |succ n m=>
  intro fr cs w h d;obtain⟨a,i,w1,E,z,p,F,x⟩:=h d;exact⟨a,i,w1,E,z,p,λe y=>⟨(F e y).1,trivial⟩,m x⟩
def eT{G:Nat}(h:Emb ρ G Fz V w)(d:Nat):Emb ρ G Fz V (w.at d):=⟨h.obj,h.inj,h.fz,h.low,h.gV,h.gw⟩
def kids[Tryq.GK]{E:NN->List NN->NL->Prop}{bot':List NN}{w0:NL}{ρ:Nat->Nat}{Sb:Nat->Prop}{fr z:NN}{cs cs':List NN}{V w:NL}(m:RelM I Tryq.fs Tryq.GK.gk bot' w0 ρ Sb fr cs V z cs' w)
 {r0 r1 r2 r3:Int}{ad:Option NP}{n cap:Nat}{S:List Sh}(A1:S.length=n)(Y:Shots V ad S):
 ∃sh:Nat->Obj->Prop,(∀b a,sh b a->b<w.heap.size/\w.heap[b]? =J a)/\∀j o w1 Ik,j<n->MnI w.heap.size n (Zh r0 r1 r2 r3 (ad.map (Zl ρ)) n cap) sh Ik j o w1->¬Sb Ik->w.heap.size+3<Ik->(∀b,Sb b->b<w.heap.size)->PayAt (w.heap.size+1) n w1->
  LA I link.tWg (w.heap.size+3) (w.heap.size+1) n Sb (ResQ (Zh r0 r1 r2 r3 (ad.map (Zl ρ)) n cap) r0 r1 r2 r3 S) j o (born I (MX w.heap.size Ik)) w1:=by
 rcases TY n with rfl|Dv
 .exact⟨λ_ _=>False,λ_ _ h=>h.elim,λj o w1 Ik X=>by omega⟩
 .obtain⟨s0,Hx⟩:∃s,S[0]? =J s:=⟨_,YH OA⟩;obtain⟨sb,off,rfl,Hn,_,i⟩:=Y 0 s0 Hx;obtain⟨c,e,f,p⟩:∃c e f,V.heap[sb]? =J (.cells c e f):=by
   have:=i.c0;unfold World.cell? at this;split at this
   .rename_i c e f h;exact⟨c,e,f,h⟩
   .cases this
  obtain⟨o',T,y,K⟩:=m.emb.obj sb _ p rfl;have y:ORel ρ (Nk.Live V) ND (.cells c e f) o':=by
   by_cases O:Tryq.GK.gk sb=U
   .exact(K O).1
   .exact(y O).weaken
  clear K;cases y with
  |cells x hf=>
   rename_i c' f';have M:ρ sb<w.heap.size:=(YF.1 T).1;refine⟨λb a=>b=ρ sb/\a= .cells c' e f',λb a h=> ?_,λj o w1 Ik X hI Ot Lc Ji hp=> ?_⟩
   .rw[h.1,h.2];exact⟨M,T⟩
   .obtain⟨s,hs⟩:∃s,S[j]? =J s:=⟨_,YH OA⟩;obtain⟨b,F,eb,_,hc,Cc⟩:=Y j s hs;cases eb;exact lN X hs hc Cc p x (m.emb.low sb ⟨_,p,rfl⟩) m.emb.gV m.emb.gw Ji (m.shun sb ⟨_,p,rfl⟩) M hI Ot Lc hp
def lQ{fs:Array Func}{Gs:Nat->Bool}{bot:List NN}(h:CsR P fs Gs ρ L bot bot' cs cs')(m:cs≠bot):
 ∃c c' i a,cs=c::i/\cs'=c'::a/\FrR P fs Gs ρ L c c'/\(i=bot->c.roundOf=NB)/\CsR P fs Gs ρ L bot bot' i a:=by
 cases h with|nil=>exact absurd rfl m|cons x p y=>exact⟨_,_,_,_,rfl,rfl,x,p,y⟩
def gF{fs:Array Func}{Gs:Nat->Bool}(h:CsR P fs Gs ρ L (b::bs) bot' cs cs'):cs≠[]:=by
 cases h<;>simp
def phase82[Tryq.GK]{E:NN->List NN->NL->Prop}(hE:IsEnd E)(bot':List NN)(w0:NL):J8 I Tryq.fs Tryq.GK.gk E bot' w0:=by
 intro f a a' cs cs' V ρ Sb gs w sl t q J9 Hq a4 a0 An hH p hM;have hf:f=114:=by
  rcases Tryq.ent_kept Hq with h|h
  .exact absurd (Tryq.tmK h) J9
  .exact h
 subst hf;have ha:a.size=1:=a4 rfl;obtain⟨x,rfl⟩:∃x,a= #[x]:=⟨a[0],by apply Array.ext;simp[ha];intro i K F;simp at F;subst F;rfl⟩
 obtain⟨x',rfl⟩:∃x',a'= #[x']:=⟨a'[0]'(by rw[<-a0.1];simp),by
  have:a'.size=1:=by rw[<-a0.1];rfl
  apply Array.ext;simp[this];intro i K F;simp at F;subst F;rfl⟩
 have hx:VRel ρ (Nk.Live V) x x':=a0.2 0 OD;have Bc:=p.self;have Iw:VRel id (Nk.Live V) x x:=by
  have:=Bc.fro.tmps.at 0;rw[Tryq.enterK]at this;exact this
 obtain⟨r0,r1,r2,r3,ad,n,cap,S,rfl,A1,hn,Le⟩:=Tryq.pre_k hE An Iw ⟨hH,Bc,λg M=>(p.glob g M).1,An⟩;have b5:=ff hx;subst b5;have Oi:∀a,ad=J a->Nk.Live V a.block:=by
  rintro a rfl;cases Iw with
  |agg K F=>
   have:=F 4 (by simp[Zh]);simp only[Zh]at this;cases this with|slice l c h=>exact h
 obtain⟨c,c',z,y,rfl,rfl,a9,b6,U4⟩:=lQ p.cso An;have Hw:∀b,Sb b->b<w.heap.size:=p.sbl;obtain⟨sh,Cc,Ld⟩:=kids (E:=E) (r0:=r0) (r1:=r1) (r2:=r2) (r3:=r3) (cap:=cap) p A1 Le
 obtain⟨K0,Gu⟩:=pre82 (Sb:=Sb) (cs:=c'::y) (w:=w) (cc:=Zh r0 r1 r2 r3 (ad.map (Zl ρ)) n cap) (Stop:=λfr cs w1=>∃m,fr=(base 114).at (ZD 23 m []) (.code L82::kL)/\cs=c'::y/\Hm w.heap.size n 0 m/\Grew w w1 (N4 (Zh r0 r1 r2 r3 (ad.map (Zl ρ)) n cap) w.heap.size n)) hn rfl Hw
  (λm w1 hG K h3 h4 a6 a8=>⟨m,rfl,rfl,⟨K,h3,h4,a6,a8⟩,hG⟩)
 obtain⟨_,_,_,_,_,w1,b4,q1,U5,⟨_,rfl,rfl,Du,T⟩,I8,J5⟩:=cV (sl:=sl) (λe he=>kF he _) K0 Gu hM (λop A4=>AK (hM.past.seen op A4) OA);obtain⟨_,_,t2,Dz,hF⟩:=oE (sl:=b4) (cs:=c'::y) (sh:=sh) hn Hw T Du I8 J5 Cc (nl _ _ _ _ _ S) Ld;obtain⟨b2,w2,b7,_,o2,O,q2,rfl,Xp,⟨m3,Q0,rfl,Xq⟩,Te,B6,hO,Nm,F7,Y,Rz,Xr,a3⟩:=hF;have Bo:w1.heap.size=w.heap.size+4:=T.size;have Tl:MacM I (λb=>Sb b\/b=w.heap.size+3) ((base 114).at (ZD 23 m3 []) (.inRegion q9 []::kT)) (c'::y) b2 w2 t2 q2:=⟨Xp,Rz,Xr,a3⟩;have a5:¬(Sb (w.heap.size+2)\/w.heap.size+2=w.heap.size+3):=by
  rintro(h|h)
  .have:=Hw _ h;omega
  .omega
 obtain⟨K3,U6⟩:=fU (n:=n) (Sb:=λb=>Sb b\/b=w.heap.size+3) (cs:=y) (c:=c') (N:=w.heap.size) (w:=w2) (m:=m3) (Stop:=λfr cs w3=>fr=c'.finish (.slice (J ⟨w.heap.size+1,0,NB⟩) n n)/\cs=y/\∃d,w3=w2.at d) Q0.t3 (by simp only[World.cell?,Xq.out];rfl) a5 (by have:=Xq.sz;omega) (λd=>⟨rfl,rfl,d,rfl⟩);obtain⟨_,t3,_,_,b3,w3,a7,q3,U7,⟨rfl,rfl,d,rfl⟩,Dc,_⟩:=cV (sl:=b7) (X:=λ_=>True) (λ_ _=>trivial) K3 (ls U6) Tl (λ_ _=>trivial);obtain⟨_,U8⟩:=Nk.runNT_add U5 Dz;obtain⟨N5,U9⟩:=Nk.runNT_add U8 U7;have Ig:=Tryq.curves_any r0 r1 r2 r3 ad cap V S n A1 hn Le;obtain⟨e,V1,fr,⟨rfl,b1⟩,⟨k,Aj⟩,_,Dh⟩:=Ig (c::z);have Ua:runN (Z6 I Tryq.fs) (k+1) (lone (Frame.enter (Z6 I Tryq.fs) 114 #[.agg (Zh r0 r1 r2 r3 ad n cap)] .normal) (c::z) V)= .next (lone (c.finish (.slice (J V.heap.size) n n)) z V1):=by
  have K:runN (Z6 I Tryq.fs) k (lone (Frame.enter (Z6 I Tryq.fs) 114 #[.agg (Zh r0 r1 r2 r3 ad n cap)] .normal) (c::z) V)= .next (lone fr (c::z) V1):=Aj;have F:step (Z6 I Tryq.fs) (lone fr (c::z) V1)= .next (lone (c.finish (.slice (J V.heap.size) n n)) z V1):=step_leave_returned Dh;rw[runN_add,K];simp only[runN,F]
 obtain⟨Ke,Di⟩:=jY Tryq.soloK hE (k+1) hH Bc (λg M=>(p.glob g M).1) Ua (gF U4);obtain⟨ρ1,Bg,C2,Ja,Mk,Dj,Qj,Ub⟩:=nI (w2:=w2) (o2:=o2) (O:=O) p.emb A1 Oi b1 T (λb hb=>(Y.old b hb).2) Y.size Te F7 B6 hO Nm;have hm:∀b,Nk.Live V b->Nk.Live V1 b/\ρ1 b=ρ b:=λb hb=>⟨Mk b hb,Bg b hb⟩
 have hv:VRel ρ1 (Nk.Live V1) (.slice (J V.heap.size) n n) (.slice (J ⟨w.heap.size+1,0,NB⟩) n n):=by
  have:=VRel.slice (ρ:=ρ1) (a:=⟨V.heap.size,0,NB⟩) n n Qj;simp only[Zl,C2]at this;exact this
 have Uc:=(a9.mono hm).finish hv;have a1:∀b,Nk.Live V b->ρ b<w.heap.size:=by
  rintro b ⟨o,K,F⟩;obtain⟨_,h3,_⟩:=p.emb.obj b o K F;exact(YF.1 h3).1
 refine⟨N5,_,t3,ρ1,λb=>Sb b\/b=w.heap.size+3,_,z,V1,_,_,b3,w2.at d,a7,q3,U9,rfl,Ke,λh=>by have:=RJ List.length h;simp at this,?_,Dc⟩;refine⟨Di,.own Uc,U4.mono hm,λ_=>Uc,λh=>(Ug _ _).trans (b6 h),eT Ja d,λb l hb=>p.loops b l (Ub b l hb),λg M=>⟨Mk g (p.glob g M).1,(Bg g (p.glob g M).1).trans (p.glob g M).2⟩,λb hb hs=> ?_,λb hb=> ?_,λb hb=> ?_,λb hb M=> ?_,?_,?_,?_,?_⟩
 .rcases Dj b hb with h|⟨K,F⟩
  .rw[Bg b h]at hs;rcases hs with hs|hs
   .exact p.shun b h hs
   .have:=a1 b h;omega
  .rcases hs with hs|hs
   .have:=Hw _ hs;omega
   .exact F hs
 .show b<w2.heap.size;have:=Y.size;rcases hb with hb|hb
  .have:=Hw b hb;omega
  .omega
 .have A5:b<w.heap.size:=YS hb p.grown;have Ba:=T.size;exact((Y.old b ⟨OA,OA,OA⟩).2.trans (T.old b A5)).trans (p.old b hb)
 .rcases Dj b hb with h|⟨K,_⟩
  .rw[Bg b h];exact p.far b h M
  .have:=p.grown;omega
 .show w0.heap.size<=w2.heap.size;have:=Y.size;have:=p.grown;omega
 .exact Y.tape.trans (T.tape.trans p.tape)
 .exact Y.os.trans (T.oss.trans p.os)
 .exact Y.output.trans (T.output.trans p.output)
end
end Go.Proofs.Tryv
section
namespace Go.Nk
open Go Go.RowKit Go.ChangeShapes Go.WideShapes Go.Conc
open Go.Proofs.Tryq (isS isA FT)
section
variable {r:Reach}{base:Nat}
def mX{a:NP}(h:w.has P r base a e n):Yv w a.block=U:=by
 obtain⟨_,_,_,cells,h,_⟩:=h;unfold World.shape? at h;split at h
 .rename_i c t f hh;unfold Yv;rw[hh]
 .cases h
def jr{a:NP}{c:Nat}(h:Cell.okWide P w r base u (.slice (J a) l c)):Yv w a.block=U:=by
 unfold Cell.okWide at h;split at h
 .rename_i i;cases i
 .rename_i i;cases i
 .rename_i i;cases i
 .rename_i i;cases i
 .rename_i i;cases i
 .rename_i i;cases i
 .rename_i i;cases i
 .unfold Cell.ok at h;split at h<;>first|(rename_i i;cases i;first|done|exact mX h.2.2)|exact False.elim h
def bh{t:NT}(h:Value.okWide P w r base t v)(z:isS P t=U):∃cs,v= .agg cs/\cs.size=P.cellsOf t/\∀(i:Nat)(x:Z),cs[i]? =J x->∃u,Cell.okWide P w r base u x:=by
 obtain⟨fs,a⟩:=FT z;unfold Value.okWide at h;rw[a]at h;obtain⟨cs,p,m,_,_,_,y⟩:=h;exact⟨cs,p,m,λi x m=>by obtain⟨u,_,a⟩:=y i x m;exact⟨u,a⟩⟩
end
def mQ{H:Type}{enc:NT×Z->H}(M:laidOutB P=U){W E:NL}(Y:Below W.heap.size W E):∀{m:List NT}{a:List Z}{i:List (DataW H)}{p:List MemPlace},
 (m.all λt=>P.readableRec t&&decide (t<P.types.size))=U->DataW.TrodAll enc P W 0 (λ_=>U) U m a i p->(∀x∈p,x.block<W.heap.size)->DataW.TrodAll enc P E 0 (λb=>decide (b<W.heap.size)) U m a i p:=by
 intro m
 induction m with
 |nil=>
  intro a i p _ h _;cases a<;>cases i<;>first|exact h|exact h.elim
 |cons t m T=>
  intro a i p y h F;cases a<;>cases i<;>first|exact h.elim|skip
  rename_i v a d i;obtain⟨K,q1,X,O,rfl⟩:=h;simp only[QZ,YG,XE]at y;exact⟨K,q1,Below.trod M y.1.1 y.1.2 X Y (λx z=>F x (QI _ z)),T y.2 O (λx z=>F x (List.mem_append_right _ z)),rfl⟩
def nJ{H:Type}{enc:NT×Z->H}{a:Assume}{C:Checked}{O:Os}{s:ChangeSpec}{y:List PathCond}{L:List (String×DataW Unit)}
 (own:ownKnob C.prog.godebug=NB)(x:O.Started)(Y:C.prog.funcs[f]? =J fn)
 (z:∃(w:NL)(h:Tape)(i:Input),w.os=O/\(w.forCall h i).Shaped C.prog/\i.vars=[]/\Input.okWide C.prog (w.forCall h i) .any w.heap.size f i/\
   ((s.pre enc C.prog fn y apart (w.forCall h i).memory i.args/\laidMetH C.prog L (w.forCall h i).memory)/\sizedMet enc C.prog fn (OpenSpec.ofChange s) apart (w.forCall h i).memory i.args)/\a.holds C.prog (lone (Frame.enter C.prog f i.args .normal) [] (w.forCall h i)))
 (E:∀(W:NL)(base:Nat)(m:Array Z)(T gs:List (DataW H))(before:List MemPlace),W.ShapedOpen C.prog->
   (∀(j:Nat) t v,fn.params[j]? =J t->m[j]? =J v->Value.okWide C.prog W .any base t v)->
   DataW.Whole enc C.prog fn.params.toList s.vars apart W m.toList T gs before->laidMetH C.prog L W->
   ∃M p o w' F,runNT C.prog (M+1) (solo (G (Frame.enter C.prog f m .normal) []) W) #[]=(.ended o w',F)/\runN C.prog M (solo (G (Frame.enter C.prog f m .normal) []) W)= .next p/\
    step C.prog p= .ended o w'/\Conc.Good C.prog (λv W'=>s.post enc C.prog fn apart fresh Iy again W m v W') p o w' F):
 ReturnsInLeavingWide a C O f .any (λw m=>(s.pre enc C.prog fn y apart w m/\laidMetH C.prog L w)/\sizedMet enc C.prog fn (OpenSpec.ofChange s) apart w m) (s.post enc C.prog fn apart fresh Iy again):=by
 refine returnsInLeavingWide_of_good own x z ?_;intro w h i _ Cc _ C9 Gu _;obtain⟨_,_,_,a0,Qk,_,_,_,_,Hy⟩:=C9;have e:a0=fn:=YT (Qk.symm.trans Y);subst e;obtain⟨⟨⟨T,gs,before,hw,_⟩,hL⟩,_⟩:=Gu;have K:=DataW.Whole.of_heap (w':=w.forCall h i) (by rfl) hw;have X:laidMetH C.prog L (w.forCall h i):=laidMetH.of_heap (by rfl) hL;obtain⟨M,p,o,w',F,h1,h2,h3,h4⟩:=E (w.forCall h i) w.heap.size i.args T gs before Cc Hy K X;exact⟨M,p,o,w',F,h1,h2,h3,h4.mono λv hp=>ChangeSpec.post_blind hp⟩
end Go.Nk
namespace Go.Proofs.Tryq
open Go Go.Nk Go.RowKit Go.ChangeShapes Go.WideShapes Go.ChangeAt Go.Conc
attribute [local instance] theBan
def globals4:Tryz.prog.globals.size=12:=OB
def jT(h:Meas W):Meas (Zx W):=λi hi=>JU rfl (h i hi) (by
 obtain rfl|rfl|rfl|rfl|rfl|rfl:i=0\/i=1\/i=2\/i=3\/i=4\/i=5:=OA
 all_goals rfl)
def eJ(h:Most W):Most (Zx W):=⟨JU rfl h.m0 rfl,JU rfl h.m1 rfl⟩
def jb(h:Deb W):Deb (Zx W):=λi hi=>JU rfl (h i hi) rfl
def jB(t)(h:Most W):Most (retape t W):=⟨h.m0,h.m1⟩
noncomputable def entB(i:Nat):Bool:=match fs[i]?,Tryz.prog.funcs[i]? with
 |some a,J b=>a.body.isSome&&b.body.isSome&& !(a.name== "runtime.NumGoroutine")&& !(b.name== "runtime.NumGoroutine")
 |_,_=>ND
def nR(h:entB f=U):Ent I fs f:=by
 unfold entB at h;split at h
 .rename_i a b ha hb;simp only[YG,XZ]at h;exact⟨a,b,ha,hb,h.1.1.1,h.1.1.2,h.1.2,h.2⟩
 .cases h
def mP(h:entB f=U):Ent (Z6 I fs) fs f:=by
 obtain⟨a,b,i,_,m,_,p,_⟩:=nR h;exact⟨a,a,i,i,m,m,p,p⟩
end Go.Proofs.Tryq
end
namespace Go.Proofs.Tryq
section
open Go Go.Nk Go.RowKit Go.ChangeShapes Go.WideShapes Go.ChangeAt Go.Conc Go.Deep
attribute [local instance] theBan
def dy{α:Type}{p:Nat->α->Prop}:∀(n:Nat),(∀i,i<n->∃x,p i x)->∃L:List α,L.length=n/\∀(i:Nat)(x:α),L[i]? =J x->p i x:=by
 intro n
 induction n with
 |zero=>exact λ_=>⟨[],rfl,λi x h=>by simp at h⟩
 |succ n z=>
  intro h;obtain⟨L,m,E⟩:=z λi hi=>h i OA
  obtain⟨x,F⟩:=h n OA;refine⟨L++[x],by simp[m],λi y a=> ?_⟩;rw[List.getElem?_append]at a;split at a
  .exact E i y a
  .rename_i A5;have:i=n:=by
    have:=(YI.1 a).1;simp at this;omega
   subst this;rw[m,Nat.sub_self]at a;cases a;exact F
section
variable {H:Type}{enc:NT×Z->H}
def aF(b off i:Nat):(⟨b,off,NB⟩:NP).add i=⟨b,off+i,NB⟩:=by
 unfold Addr.add;split
 .rename_i h;rw[h];rfl
 .rfl
def dc{u e c:Nat}{x:DataW H×List MemPlace}(hu:Tryz.prog.underlying u=J (.slice e))(T:Tryz.prog.cellsOf e=c)(X:0<c)(E:∃u,Cell.okWide I W .any b0 u v)(h:DataW.trod enc I W 0 (λ_=>U) U k u [v]=J x):
 ∃(base:Option NP)(n cap:Nat),v= .slice base n cap/\n<=cap/\cap<=maxLen/\VRel id (Nk.Live (Zx W)) v v/\
  ∀i,i<n->∃b off,base=J ⟨b,off,NB⟩/\b<W.heap.size/\∃cs:List Z,cs.length=c/\(∀j,j<c->W.cell? ⟨b,off+i*c+j,NB⟩=cs[j]?)/\∃m y,DataW.trod enc I W 0 (λ_=>U) U m e cs=J y:=by
 rcases open_slice hu h with⟨z,_⟩|⟨a,F,cap,m,q,D,_,z,_,hl,hm,Hf,_,M⟩
 .simp only[SU,and_true]at z;subst z;exact⟨NB,0,0,rfl,XA _,OC,.nilSlice _ _,λi hi=>by omega⟩
 .simp only[SU,and_true]at z;subst z;obtain⟨_,E⟩:=E;have O:=jr E;refine⟨J a,F,cap,rfl,hl,hm,.slice (ρ:=id) _ _ (IK.1 O),λi hi=> ?_⟩;simp only[XY]at Hf;obtain⟨cs,K,h3⟩:=M i OA;rw[T]at K;obtain⟨_,Y,h5⟩:=World.cells?_some K;obtain⟨b,off,p⟩:=a;have Dt:p=NB:=by
   obtain⟨_,k2,_⟩:=M 0 OA;rw[T]at k2;obtain⟨_,k4,k5⟩:=World.cells?_some k2;have k6:=k5 0 X;rw[YH OA]at k6;simpa[Addr.add]using World.cell?_spot k6
  subst Dt;have A5:b<W.heap.size:=by
   obtain⟨_,_,_,h⟩:=Q6.1 O;exact(YF.1 h).1
  exact⟨b,off,rfl,A5,cs,Y,λj hj=>by have:=h5 j hj;rwa [aF,aF]at this,q,_,h3⟩
def under24:Tryz.prog.underlying 24=J (.slice 51):=OB
def under9:Tryz.prog.underlying 9=J .string:=OB
def under4:Tryz.prog.underlying 4=J .bool:=OB
def cells51:Tryz.prog.cellsOf 51=7:=OB
def cells26:Tryz.prog.cellsOf 26=5:=OB
def lG{x:DataW H×List MemPlace}(hv:∃u,Cell.okWide I W .any b0 u v)(h:DataW.trod enc I W 0 (λ_=>U) U k 24 [v]=J x):
 ∃(base:Option NP)(n cap:Nat)(L:List Sf),v= .slice base n cap/\L.length=n/\n<=cap/\cap<=maxLen/\VRel id (Nk.Live (Zx W)) v v/\RawA W base L:=by
 obtain⟨base,n,cap,e,hn,hm,T,y⟩:=dc under24 cells51 OC hv h;have p:∀i,i<n->∃x:Sf,∃b off,base=J ⟨b,off,NB⟩/\b<W.heap.size/\ShaftAt W b (off+i*7) x/\x.nm.size<=maxLen:=by
  intro i hi;obtain⟨b,off,O,E,cs,_,a,m⟩:=y i hi;have i:cs.length<=Tryz.prog.cellsOf 51:=by rw[cells51];omega
  obtain⟨s,y,X⟩:=lS (n:=3) (o:=0) (u:=9) i m OB under9;obtain⟨x1,e1,_⟩:=Xg (n:=3) (o:=1) (u:=3) i m OB under3;obtain⟨Y,e2,_⟩:=Xg (n:=3) (o:=2) (u:=3) i m OB under3;obtain⟨K,e3,_⟩:=Xg (n:=3) (o:=3) (u:=3) i m OB under3;obtain⟨F,e4,_⟩:=Xg (n:=3) (o:=4) (u:=3) i m OB under3;obtain⟨x5,z,_⟩:=Xg (n:=3) (o:=5) (u:=3) i m OB under3;obtain⟨x6,M,_⟩:=Xg (n:=3) (o:=6) (u:=3) i m OB under3;exact⟨⟨s,x1,Y,K,F,x5,x6⟩,b,off,O,E,⟨(a 0 OA).trans y,(a 1 OA).trans e1,(a 2 OA).trans e2,(a 3 OA).trans e3,(a 4 OA).trans e4,(a 5 OA).trans z,(a 6 OA).trans M⟩,X⟩
 obtain⟨L,a,i⟩:=dy n p;exact⟨base,n,cap,L,e,a,hn,hm,T,i⟩
def arr5{cs:Array Z}{a b c e:Z}(y:cs.size=5)(p:cs.toList[0]? =J a)(m:cs.toList[1]? =J b)(h:cs.toList[2]? =J c)(x:cs.toList[3]? =J d)(i:cs.toList[4]? =J e):cs= #[a,b,c,d,e]:=by
 obtain⟨l⟩:=cs
 match l,y with
 |[_,_,_,_,_],_=>simp at p m h x i;subst p m h x i;rfl
def kq{d:DataW H}{p:List MemPlace}(hv:Value.okWide I W .any b0 26 v)(h:DataW.Trod enc I W 0 (λ_=>U) U 26 v d p):
 ∃(a b c m:Int)(base:Option NP)(n cap:Nat)(L:List Sf),v= .agg #[a,b,c,m,.slice base n cap]/\L.length=n/\n<=cap/\cap<=maxLen/\VRel id (Nk.Live (Zx W)) v v/\RawA W base L/\
  ((Lit.int .i64 a).wf=U/\(Lit.int .i64 b).wf=U/\(Lit.int .i64 c).wf=U/\(Lit.int .i64 m).wf=U):=by
 obtain⟨cs,rfl,K,hx⟩:=bh hv OB;obtain⟨x,i⟩:=h;have i:DataW.trod enc I W 0 (λ_=>U) U x 26 cs.toList=J (d,p):=i;rw[cells26]at K;have z:cs.toList.length<=Tryz.prog.cellsOf 26:=by rw[cells26];simp[K]
 obtain⟨E,X,w0⟩:=Xg (n:=2) (o:=0) (u:=3) z ⟨_,_,i⟩ OB under3;obtain⟨O,e1,w1⟩:=Xg (n:=2) (o:=1) (u:=3) z ⟨_,_,i⟩ OB under3;obtain⟨M,e2,w2⟩:=Xg (n:=2) (o:=2) (u:=3) z ⟨_,_,i⟩ OB under3;obtain⟨F,e3,Y⟩:=Xg (n:=2) (o:=3) (u:=3) z ⟨_,_,i⟩ OB under3;obtain⟨sv,m,y,e4,h4⟩:=ci (n:=2) (o:=4) (u:=24) z ⟨_,_,i⟩ OB under24;obtain⟨base,n,cap,L,rfl,hL,hn,hm,hr,hR⟩:=lG (hx 4 sv (by simpa using e4)) h4;have Ql:=arr5 K X e1 e2 e3 e4;subst Ql
 have T:AR id (Nk.Live (Zx W)) #[E,O,M,F,.slice base n cap] #[E,O,M,F,.slice base n cap]:=
  ((((AR.nil.push (.int _ _)).push (.int _ _)).push (.int _ _)).push (.int _ _)).push hr
 exact⟨E,O,M,F,base,n,cap,L,rfl,hL,hn,hm,.agg T.1 T.2,hR,w0,w1,w2,Y⟩
end
end
section
open Go Go.Nk Go.RowKit Go.ChangeShapes Go.WideShapes Go.ChangeAt Go.Conc
attribute [local instance] theBan
def own:ownKnob Tryz.prog.godebug=NB:=OB
def laidOut:laidOutB I=U:=OB
noncomputable def w00(h:Os):NL:=
 let a:=World.holding I h ⟨#[],#[],[]⟩
 {a with heap:=(a.heap.modify 0 fun
   | .cells _ t frozen=> .cells #[.iface (((Tryz.prog.cutTypes.find? (·.1== "internal/reflectlite.rtype")).map (·.2)).getD 0) (.agg #[typeHandle I 91])] t frozen
   |o=>o).modify 2 fun
   | .cells _ t frozen=> .cells #[.func (.func 279) #[] #[],.func (.func 280) #[] #[],.func (.func 281) #[] #[],.func (.func 282) #[] #[],.func (.func 283) #[] #[],.func (.func 284) #[] #[]] t frozen
   |o=>o}
def laidP:List (String×DataW Unit):=laidL.filter λx=>x.2.handleName?.isNone
noncomputable def JF(a:Os):NL:=(w00 a).layVars I laidP
def iY(h:Os):laidMet I laidP (JF h):=by
 have e1:(laidP.filter λx=>(laidP.map (·.1)).contains x.1)=laidP:=List.filter_eq_self.2 λx a=>VS.2 (VW.2 ⟨x,a,rfl⟩)
 have e2:(laidP.filter λx=> !(laidP.map (·.1)).contains x.1)=[]:=List.filter_eq_nil_iff.2 λx a=>by rw[VS.2 (VW.2 ⟨x,a,rfl⟩)];simp
 exact laidMet_layVars (w0:=w00 h) (laidP.map (·.1)) [] (by rw[e1];rfl) (by rw[e1];kernel_rfl) (by rw[e1];kernel_rfl) (by rw[e2];exact LaidIn.none)
def oa(h:Os)(a:Array Z):laidMetH I laidL ((JF h).forCall (λ_ _=>0) ⟨#[],a,[]⟩).memory:=
 laidMetH_of_parts3 (fuel:=8) ((iY h).of_heap (by simp[World.memory,World.forCall,Input.heap])) OB OB
def p6(h:Os)(a:Array Z):((JF h).forCall (λ_ _=>0) ⟨#[],a,[]⟩).Shaped I:=World.shaped_of_ZipB OB OB
def rows4:((List.range 12).all λg=>(((begin I (λ_ _=>0) default).world.heap[g]?).bind Obj.row?).isSome)=U:=OB
def qS(h:W.ShapedOpen I):∀g,g<12->Yv W g=U:=by
 intro g a;have i:=YL.1 rows4 g (YU.2 a);obtain⟨⟨zero,t⟩,m⟩:=UI.1 i;obtain⟨cs,i,_⟩:=h.1 g zero t (by rw[globals4];exact a) m;exact Q6.2 ⟨_,_,_,i⟩
def gJ{H:Type}{enc:NT×Z->H}{os:Os}{s:ChangeSpec}{ts:List NT}(E:os.Started)(a1:Tryz.prog.funcs[f]? =J fn)
 (Qm:fn.params.toList=ts)(hn:ts.length=n)(hv:s.vars=[])(Jj:fn.resultTypes= #[4])(hs:∀m:List (DataW H),m.length=n->s.fn H m={results:=[.lit (.bool U)],args:=m})
 (Ud:(ts.all λt=>Tryz.prog.readableRec t&&decide (t<Tryz.prog.types.size))=U)
 (F:∃(w:NL)(y:Tape)(i:Input),w.os=os/\(w.forCall y i).Shaped I/\i.vars=[]/\Input.okWide I (w.forCall y i) .any w.heap.size f i/\
   ((s.pre enc I fn [] ND (w.forCall y i).memory i.args/\laidMetH I laidL (w.forCall y i).memory)/\sizedMet enc I fn (OpenSpec.ofChange s) ND (w.forCall y i).memory i.args)/\({}:Assume).holds I (lone (Frame.enter I f i.args .normal) [] (w.forCall y i)))
 (run:∀(W:NL)(base:Nat)(a:Array Z)(m:List (DataW H))(p:List MemPlace),(∀(j:Nat) t v,fn.params[j]? =J t->a[j]? =J v->Value.okWide I W .any base t v)->DataW.TrodAll enc I W 0 (λ_=>U) U ts a.toList m p->
   laidMetH I laidL W->(∀g,g<12->Yv W g=U)->12<=W.heap.size->W.ShapedOpen I->∃N z o K X,runNT I (N+1) (Go.Conc.solo (G (Frame.enter I f a .normal) []) W) #[]=(.ended o K,X)/\runN I N (Go.Conc.solo (G (Frame.enter I f a .normal) []) W)= .next z/\step I z= .ended o K/\
    Conc.Good I (λv K=>v= .bool U/\Below W.heap.size W K) z o K X):
 ReturnsInLeavingWide {} Tryz.checked os f .any (λw a=>(s.pre enc I fn [] ND w a/\laidMetH I laidL w)/\sizedMet enc I fn (OpenSpec.ofChange s) ND w a) (s.post enc I fn ND U ND ND):=by
 refine nJ (C:=Tryz.checked) own E a1 F ?_;intro W base a m gs before Cc Hy hW hL;have T:=hW;obtain⟨p,q,Gv,hV,rfl,_,_⟩:=hW;rw[hv]at hV;obtain⟨rfl,rfl⟩:=trodVars_none hV;have hA:DataW.TrodAll enc I W 0 (λ_=>U) U ts a.toList m p:=by rw[<-Qm];exact Gv
 have Am:=qS Cc;have h4:12<=W.heap.size:=by
  obtain⟨_,_,_,h⟩:=Q6.1 (Am 11 OA);exact(YF.1 h).1
 obtain⟨M,z,o,K,X,h1,Y,h3,h5⟩:=run W base a m p Hy hA hL Am h4 Cc;refine⟨M,z,o,K,X,h1,Y,h3,h5.mono λv hp=> ?_⟩;obtain⟨rfl,hb⟩:=hp;have A5:∀x∈p++[],x.block<W.heap.size:=λx hx=>T.lt x hx
 simp only[TB]at A5;have hdl:m.length=n:=by
  rw[<-hn];have a0:∀{ts:List NT}{O:List Z}{m:List (DataW H)}{p:List MemPlace},DataW.TrodAll enc I W 0 (λ_=>U) U ts O m p->m.length=ts.length:=by
   intro ts
   induction ts with
   |nil=>intro O m p h;cases O<;>cases m<;>first|rfl|exact h.elim
   |cons t ts ih=>
    intro O m p h;cases O<;>cases m<;>first|exact h.elim|skip
    obtain⟨_,_,_,Y,_⟩:=h;simp[ih Y]
  exact a0 hA
 refine⟨m,[],p++[],[],p,[],T,?_,?_,?_,hb.frame _,λh=>by cases h⟩
 .rw[TB,hs m hdl,Jj];exact trodAll_mk1 (shut_bool under4 U)
 .rw[TB,hs m hdl];have:=mQ laidOut hb Ud hA A5;rw[<-Qm]at this;exact this
 .rw[TB,hs m hdl,hv];rfl
def oV(Lk:Looks){p:Pinned}{s:OpenSpec}{c:OpenClaim}(a:List LaidKind)(m:Bool)(i:Bool×String)(x:Bool)
 (hc:c.holds p s)(M:c.wfByText s=U)(y:c.laidByTextAt Lk p a m)
 (K:c.start= .entering)(z:c.noBlocks=ND/\c.again=ND)(X:p.checked.prog.mainIs=J (i.1,i.2.toList))(T:(!i.1&&i.2.isEmpty&& !x)=ND)
 (O:∀f fn,p.checked.prog.funcNamed c.func=J f->p.checked.prog.funcs[f]? =J fn->x=p.checked.prog.looks []/\∀(j:Nat) t,fn.params[j]? =J t->p.checked.prog.wantsStandIn t=ND)
 (E:U=c.goesBy p.checked.prog):
 Claim7.holds p (.plain s) {stood:={row:=c,standIns:=[],harness:=i,looks:=x},kinds:=[],alts:=[],goes:=U,laidByText:=U,laidKinds:=a,laidTests:=m,laidLooks:=Lk}:=by
 have Y:∀r:OpenClaim,Claim7.isSixth {stood:={row:=r,standIns:=[],harness:=i,looks:=x},kinds:=[]}=ND:=λr=>by simpa[Claim7.isSixth]using T
 exact⟨Claim7.tied_new_at Lk a m (Claim7.new_of_sixth hc i x K z X (Y c) O) M,(λD F=>by cases F),y,(λh=>by cases h),E⟩
end
end Go.Proofs.Tryq
