import Derived.Test.YthahddndgbpooaaGreatDoorNk22
set_option linter.all false
set_option maxRecDepth 100000
set_option maxHeartbeats 1000000
open Go Go.Nk Go.RowKit Go.Shelf Go.Proofs Go.Proofs.Tryq
open Go.Obj renaming cells->I
open Go.Value renaming int->J,slice->Z,agg->NJ,pointer->NI
open Go.IntKind renaming i64->U
open Option renaming some->NA,none->NB
open Go.Proofs.Tryp renaming prog->NY
open Bool renaming false->ND,true->NC
open Go renaming World->NL,Value->NM,Calls->NW,undef->NQ,execOp->NU,Addr->NP
open Go.Ending renaming returned->NK
variable {act:Act}{F:Func}{a c m:Int}{B s:List UInt8}{xs:List NM}{b b0 cp e i k n off sb sz t:Nat}{ao:Option NP}{v x0 x1 x2 x3 x4:NM}{W W' w w' w0:NL}
namespace Go.Proofs.Tryp
attribute [local instance] k3
@[local go_sem] def tc108 (v:NM) (w:NL):(Instr.typeAssert (.iface 108 v) 94 96 NC).run NY w= .ok (.tuple #[NJ #[J U 0,J U 0,J U 0,J U 0],.bool ND]) w:=OB
@[local go_sem] def td108 (v:NM) (w:NL):(Instr.typeAssert (.iface 108 v) 94 98 NC).run NY w= .ok (.tuple #[NJ #[.string ⟨#[]⟩,J U 0,J U 0,J U 0,J U 0,J U 0,J U 0],.bool ND]) w:=OB
@[local go_sem] def tc110 (v:NM) (w:NL):(Instr.typeAssert (.iface 110 v) 94 96 NC).run NY w= .ok (.tuple #[NJ #[J U 0,J U 0,J U 0,J U 0],.bool ND]) w:=OB
@[local go_sem] def td110 (v:NM) (w:NL):(Instr.typeAssert (.iface 110 v) 94 98 NC).run NY w= .ok (.tuple #[NJ #[.string ⟨#[]⟩,J U 0,J U 0,J U 0,J U 0,J U 0,J U 0],.bool ND]) w:=OB
def kV{l:Ln}(d:okK l=ND)(p:NM)(w:NL):NW NY 46 #[lnV l,p] w (OJ (.bool ND) w):=by
 cases l with
 |rule=>cases d
 |shaft=>cases d
 |sight a b c m=>
  unfold lnV;go_enter fq Tryz.func46,Tryz.ntmps46;go_wp2;go_ret;exact⟨rfl,rfl⟩
 |shot s=>
  unfold lnV;go_enter fq Tryz.func46,Tryz.ntmps46;go_wp2;go_ret;exact⟨rfl,rfl⟩
def Kpt.rfl'(sb d:Nat)(W:NL):Kpt sb d W W:=⟨λ_ _ _=>rfl,TW (Uh (Ext.rfl' W)) (λj o e=>by cases e)⟩
def JS(N:List (List UInt8))(sb:Nat)(w0:NL)(f i:Nat)(W:NL):Prop:=
 sb<f/\Ext w0 W/\∃(d:St)(v:NM),runS 0 st0 (N.take i)= .inl d/\W.heap[sb]? =NA (I #[d.a,d.b,d.c,d.m,v] 26)/\Xy f W v d.L/\(∀x∈d.L,x.nm.size<=2000)/\d.L.length<=i
def XS(t:Nat)(sb:Nat)(w0 W:NL):Prop:=Ext w0 W/\∃x0 x1 x2 x3 x4,W.heap[sb]? =NA (I #[x0,x1,x2,x3,x4] t)
def XS.keep(W W':NL)(d:Option Nat)(h:XS t sb w0 W)(j:W.grownBy W' d)(g:∀r,d=NA r->w0.heap.size<=r/\r≠sb):XS t sb w0 W':=by
 obtain⟨o,x0,x1,x2,x3,x4,f⟩:=h;exact⟨KA o j λr e=>(g r e).1,_,_,_,_,_,(j.block sb (Z5 f) (λe=>(g _ e.symm).2 rfl)).trans f⟩
def iN(t:List UInt8)(w0 w:NL)(sb:Nat)(ht:t.length<=2000)(hx:MaxL w0)(he:ErrF w0)(V:w0.heap.size<=sb)(hE:Ext w0 w)
 (o:w.heap[sb]? =NA (I OG 26)):
 NW NY 45 #[str t,.func (.func 46) #[] #[NI (NA sb)]] w (ON okK (Y1 t) (λW'=>∃f,JS (Y1 t) sb w0 f (Y1 t).length W') (XS 26 sb w0)):=by
 have A5:=Z5 o;have a0:=LD t;refine aw 46 sb okK t (JS (Y1 t) sb w0) (XS 26 sb w0) w0 w ht V A5 hx he (MN 46) (λ_ _ _ h=>h.2.1) ?X (λW W' E h y A=>XS.keep W W' E h y A) ?tk ?keep ?st
 case X=>
  rintro f i W ⟨_,j,st,v,_,u,_⟩;exact⟨j,_,_,_,_,_,u⟩
 case st=>
  intro f hn;exact⟨OA,hE,st0,_,by simp[runS],o,VJ _ _ _ _,(λx h=>by cases h),XL _⟩
 case keep=>
  rintro f i W W' E ⟨g,j,st,v,u,p,K,M,h7⟩ y A;exact⟨g,KA j y λr e=>(A r e).1,st,v,u,(y.block sb (Z5 p) (λe=>(A _ e.symm).2.1 rfl)).trans p,aP K y λr e=>(A r e).2.2,M,h7⟩
 case tk=>
  rintro f i W B l O hl hh ⟨g,j,st,v,u,p,K,M,h7⟩ hn;have Ff:B.length<=2000:=XC (HJ (YQ O)) ht;have hi:i<(Y1 t).length:=(YI.1 O).1
  have d:okK l=ND->NW NY 46 #[lnV l,NI (NA sb)] W λe W'=>e= NK (.bool (okK l))/\(okK l=NC->JS (Y1 t) sb w0 f (i+1) W')/\XS 26 sb w0 W'/\Kpt sb f W W':=λY=>
   (kV Y _ W).mono (by rintro e W' ⟨rfl,rfl⟩;exact⟨by rw[Y],λh=>(by rw[Y]at h;cases h),⟨j,_,_,_,_,_,p⟩,Kpt.rfl' _ _ _⟩)
  cases l with
  |sight=>exact d rfl
  |shot=>exact d rfl
  |rule a b c m=>
   have o:Wu (decide (i=0)) st B=NA ⟨a,b,c,m,st.L⟩:=by rw[Wu,hl,<-hh];rfl
   refine(pl a b c m sb f v W _ _ _ _ p hn).mono ?_;rintro e W' ⟨rfl,z,H,P,g4,g5,T⟩;have C:=Ix j V g H g4 g5 T;exact⟨rfl,λ_=>⟨g,C,_,v,Aa O u o,z,P st.L g K,M,by show st.L.length<=_;omega⟩,⟨C,_,_,_,_,_,z⟩,H⟩
  |shaft x=>
   have o:Wu (decide (i=0)) st B=NA {st with L:=st.L++[x]}:=by rw[Wu,hl,<-hh];rfl
   have Jh:=AW o Ff M;refine(jX x sb f v st.L W _ _ _ _ p hn g K OA).mono ?_;rintro e W' ⟨rfl,v',z,H,P,g4,g5,T⟩;have C:=Ix j V g P g4 g5 T;exact⟨rfl,λ_=>⟨g,C,_,v',Aa O u o,z,H,Jh.1,XC Jh.2 OA⟩,⟨C,_,_,_,_,_,z⟩,P⟩
def qF{t:List UInt8}{e:Ending}(h:ON okK (Y1 t) (λW'=>∃o,JS (Y1 t) sb w0 o (Y1 t).length W') (XS 26 sb w0) e W'):
 (∃d,V0 t=(if Zp d.a d.b d.c d.m d.L=0 then(d,0,0)else(st0,0,Zp d.a d.b d.c d.m d.L))/\e= NK .nilIface/\Ext w0 W'/\∃ao cp,W'.heap[sb]? =NA (I #[d.a,d.b,d.c,d.m,Z ao d.L.length cp] 26)/\RawA W' ao d.L)\/
 (∃n:Int,V0 t=(st0,n,3)/\e= NK (.iface 101 (NJ #[n,J U 3]))/\XS 26 sb w0 W'):=by
 rcases h with⟨_,j,rfl,o,_,z,d,v,g,A,E,y,_⟩|⟨k,B,H,K,M,rfl,f⟩|⟨u,rfl,f⟩
 .rw[TC]at g;have p:Y1 t≠[]:=λh=>by rw[h]at j;cases j
  obtain⟨ao,cp,rfl,C⟩:=HP E λx O=>XC (y x O) (by simp[maxLen])
  exact .inl ⟨d,by rw[V0,g];simp only[XB p],rfl,z,ao,cp,A,C⟩
 .exact .inr ⟨_,by rw[V0,kr H M K];push_cast;rfl,rfl,f⟩
 .exact .inr ⟨0,by rw[V0,u];rfl,rfl,f⟩
def jS(t:List UInt8)(w:NL)(ht:t.length<=2000)(p:Meas w)(hx:MaxL w)(he:ErrF w)(H:ErT w):NW NY 11 #[str t] w λe w'=>KS (V0 t) e w'/\Ext w w':=by
 have Af:Ext w (w.alloc (I OG 26)):=(Ext.rfl' w).alloc _;have Hc:(w.alloc (I OG 26)).heap[w.heap.size]? =NA (I OG 26):=by rw[Z3,YZ rfl]
 have Lz:=iN t w _ w.heap.size ht hx he (XA _) Af Hc;have V:=fun(f:St) W z M p X=>IZ f.a f.b f.c f.m z f.L.length M f.L W rfl p X
 clear Af Hc ht hx he;replace p:Hid (Meas w):=p;replace H:Hid (ErT w):=H;replace V:Hid _:=V;obtain⟨r,P⟩:∃r,V0 t=r:=⟨_,rfl⟩;rw[P];go_enter fq Tryz.func11,Tryz.ntmps11;go_wp2_with fail;refine Lz.mono ?_;rintro e y Y;rcases qF Y with⟨f,j,rfl,E,ao,cp,C,H8⟩|⟨n,j,rfl,E,x0,x1,x2,x3,x4,C⟩
 all_goals
  rw[P]at j;replace j:Hid (r=_):=j;clear Y P
 case' inr=>
  have u:=E.alloc (I OH 101);have o:=((Ext.rfl' y).alloc (I OH 101)).get C;have M4:(y.alloc (I OH 101)).heap[y.heap.size]? =NA (I OH 101):=by rw[Z3,YZ rfl]
  have Jq:=H.out.ext u;have Ab:=Nat.ne_of_lt (Z5 C)
  go_wp2_with (go_at_call 47;(with_reducible refine(cj n 3 y.heap.size _ _ w _ Jq M4 u E.size).mono ?_);rintro e w3 ⟨rfl,d,A,Wk⟩
               have g:=Wk _ _ o Ab)
  have q0:=Z0 d 0;have q1:=Z0 d 1;have p0:=Z0 g 0;have p1:=Z0 g 1;have p2:=Z0 g 2;have p3:=Z0 g 3;have p4:=Z0 g 4;have z0:=Z8 g 0;have z1:=Z8 g 1;have z2:=Z8 g 2;have z3:=Z8 g 3;have z4:=Z8 g 4;simp only[YC,YA,YB]at q0 q1 p0 p1 p2 p3 p4;have a0:=Ab.symm;clear Wk M4 o Jq u Lz;replace d:Hid _:=d;replace g:Hid _:=g;rename_i K hK
  go_region
  all_goals
   refine hK _ _ ?_;go_wp2;rw[j.out];exact OK OB (k:=w.heap.size) (r:=(st0,n,3)) rfl rfl rfl rfl (Y2 _ _ _ _ _ A (XA _)).drew (Yz _ _ _ _ _ g.out) (λi x h=>by simp[st0]at h)
 case' inl=>
  obtain⟨F,O⟩:∃F,Zp f.a f.b f.c f.m f.L=F:=⟨_,rfl⟩;rw[O]at j;have Do:=λW p X=>V.out f W ao cp p X
  rw[O]at Do;have u:=E.alloc (I OH 101);have o:=((Ext.rfl' y).alloc (I OH 101)).get C;have Ch:=H8.ext ((Ext.rfl' y).alloc (I OH 101));have q0:=Z0 o 0;have q1:=Z0 o 1;have q2:=Z0 o 2;have q3:=Z0 o 3;have q4:=Z0 o 4;simp only[YC,YA,YB]at q0 q1 q2 q3 q4;have T:=p.out.ext u;replace T:Hid (Meas _):=T;clear O;by_cases h0:F=0
  case' pos=>
   subst h0;replace j:Hid (r=(f,0,0)):=j.out.trans (YZ rfl)
  case' neg=>
   replace j:Hid (r=(st0,0,F)):=j.out.trans (XB h0)
  all_goals
   go_wp2_with (first
    |(go_at_call 47;refine(cG _ _).q ?_)
    |(go_at_call 36;refine(Do _ T.out Ch).r λw4 A=> ?_
      have d:=A.get o;have As:=u.trans A;have In:=Ch.ext A;have s0:=Z0 d 0;have s1:=Z0 d 1;have s2:=Z0 d 2;have s3:=Z0 d 3;have s4:=Z0 d 4;have z0:=Z8 d 0;have z1:=Z8 d 1;have z2:=Z8 d 2;have z3:=Z8 d 3;have z4:=Z8 d 4;simp only[YC,YA,YB]at s0 s1 s2 s3 s4))
  .rw[j.out];exact OK OB (k:=w.heap.size) (r:=(st0,0,F)) rfl rfl rfl rfl (Y2 _ _ _ _ _ As (XA _)) (Yz _ _ _ _ _ d) (λi x h=>by simp[st0]at h)
  .rw[S3 s0,S3 s1,S3 s2,S3 s3,S3 s4,j.out];exact OK OB (k:=w.heap.size) (r:=(f,0,0)) rfl rfl rfl rfl As d In
structure Sc where
 a:Int
 b:Int
 c:Int
 m:Int
 L:List Rs
def K8(first:Bool)(d:Sc):Option Ln->Option Sc
 |some (.sight a b c m)=>if first=NC then NA ⟨a,b,c,m,d.L⟩else NB
 |some (.shot x)=>if first=NC then NB else NA {d with L:=d.L++[x]}
 |_=>NB
def Wd(first:Bool)(d:Sc)(s:List UInt8):Option Sc:=K8 first d (WN s)
def DG(b0:Nat)(o:Option Sc)(e:Ending)(w':NL):Prop:=∃(a b c m:Int)(ao:Option NP)(n cp:Nat),e= NK (.tuple #[NJ #[a,b,c,m,Z ao n cp],.bool o.isSome])/\∀d,o=NA d->a=d.a/\b=d.b/\c=d.c/\m=d.m/\WC b0 w' (Z ao n cp) d.L
def GY{o:Option Sc}{b:Int}(g:act.tmps.getD 6 NQ= NI (NA k))(p:act.tmps.getD 7 NQ= .bool o.isSome)(y:act.defers=[])
 (z:Ext w W)(f:W.heap[k]? =NA (I #[a,b,c,m,Z ao n cp] 31))(A:∀d,o=NA d->a=d.a/\b=d.b/\c=d.c/\m=d.m/\WC b0 W (Z ao n cp) d.L):
 bodyPost NY Tryz.f51 (λe w'=>DG b0 o e w'/\Ext w w') Exit.ret act W:=by
 refine VE (v:= .tuple #[NJ #[a,b,c,m,Z ao n cp],.bool o.isSome]) ?_ y ⟨⟨a,b,c,m,ao,n,cp,rfl,A⟩,z⟩;have u:=Z0 f 0;have x:=Z0 f 1;have j:=Z0 f 2;have d:=Z0 f 3;have h:=Z0 f 4;simp only[YC,YA,YB]at u x j d h;show(results Tryz.f51 _).run NY _=_;have C:Tryz.f51.results= #[.cell 6 31,.tmp 7]:=OB
 unfold results;rw[C];simp only[Array.getD_eq_getD_getElem?]at g p;simp[go_sem,g,p,u,x,j,d,h]
def JJ{b:Int}(g:act.tmps.getD 6 NQ= NI (NA k))(o:act.tmps.getD 7 NQ= .bool ND)(d:act.defers=[])(j:w.heap.size<=k)
 (f:Ext w W)(p:W.heap[k]? =NA (I #[x0,x1,x2,x3,x4] 31)):
 bodyPost NY Tryz.f51 (λe w'=>DG b0 NB e w'/\Ext w w') Exit.ret act (U8 W k (J U a) (J U b) (J U c) (J U m) (Z ao n cp)):=
 GY g o d (Y2 _ _ _ _ _ f j) (Yz _ _ _ _ _ p) λ_ h=>by cases h
def FD{L:List Rs}(h:WC b w v L):∃ao cp,v= Z ao L.length cp/\L.length<=cp:=by
 rcases h.2 with⟨rfl,d⟩|⟨g,_,_,rfl,_,_,d,_⟩
 .exact⟨NB,0,by rw[d],OA⟩
 .exact⟨_,_,rfl,d⟩
def qc(z:Sc)(v:NM)(s:List UInt8)(first:Bool)(b0:Nat)(w:NL)(hs:s.length<=100000)(hb:b0<=w.heap.size)(hL:z.L.length<=2000)(hv:WC b0 w v z.L):
 NW NY 51 #[NJ #[z.a,z.b,z.c,z.m,v],str s,.bool first] w λe w'=>DG b0 (Wd first z s) e w'/\Ext w w':=by
 obtain⟨ao,vc,Mz,We⟩:=FD hv;obtain⟨n,hn⟩:∃n,z.L.length=n:=⟨_,rfl⟩;rw[hn]at Mz We;subst Mz;replace hv:Hid _:=hv;replace hn:Hid _:=hn;have hf:=λw=>BY s w hs
 obtain⟨C,hC⟩:∃C,Hid (Y4 32 s=C):=⟨_,rfl⟩;rw[hC.out]at hf;obtain⟨o,ho⟩:∃o,Hid (Wd first z s=o):=⟨_,rfl⟩;rw[ho.out];have D1:=ho.out;rw[Wd,WN,hC.out]at D1;have A1:Hid (∀y∈C,y.length<=100000):=λy hy=>XC (Qn (by rw[hC.out];exact hy)) hs
 clear ho hC;have Af:Ext w ((w.alloc (I #[z.a,z.b,z.c,z.m,Z ao n vc] 31)).alloc (I OG 31)):=((Ext.rfl' w).alloc _).alloc _;have g1:((w.alloc (I #[z.a,z.b,z.c,z.m,Z ao n vc] 31)).alloc (I OG 31)).heap[w.heap.size]? =NA (I #[z.a,z.b,z.c,z.m,Z ao n vc] 31):=by
  simp only[Z3,Z2];rw[XB OA,YZ trivial]
 have g2:((w.alloc (I #[z.a,z.b,z.c,z.m,Z ao n vc] 31)).alloc (I OG 31)).heap[w.heap.size+1]? =NA (I OG 31):=by
  simp only[Z3,Z2];rw[YZ trivial]
 replace D1:Hid _:=D1;by_cases hm:[]∈C\/C.length≠5
 .obtain rfl:o=NB:=by
   rw[<-D1.out];have:lineP C=NB:=by
    unfold lineP;split
    .rw[YZ (hm.resolve_right OD)]
    .rfl
   rw[this];rfl
  clear D1;go_enter fq Tryz.func51,Tryz.ntmps51;go_wp2_with fail;generalize (w.alloc (I #[z.a,z.b,z.c,z.m,Z ao n vc] 31)).alloc (I OG 31)=w1 at*
  go_wp2_with (first
   |(go_at_call 93;refine(hf _).mono ?_;rintro e w2 ⟨hW,H⟩
     have f:=H.get g1;have d:=H.get g2;have q0:=Z0 f 0;have q1:=Z0 f 1;have q2:=Z0 f 2;have q3:=Z0 f 3;have q4:=Z0 f 4;have Y:=Z0 d 0;have V:=Z0 d 1;have O:=Z0 d 2;have M:=Z0 d 3;have P:=Z0 d 4;have z0:=Z8 d 0;have z1:=Z8 d 1;have z2:=Z8 d 2;have z3:=Z8 d 3;have z4:=Z8 d 4;simp only[YC,YA,YB]at q0 q1 q2 q3 q4 Y V O M P;replace f:Hid _:=f;replace d:Hid _:=d;rcases hW with⟨E,_,_,rfl⟩|⟨E,x',T,b,g,cp,rfl,rfl,hT⟩
     case' inr=>
      have Ab:¬T.length=4:=λh=>hm.resolve_left E (by rw[YP,h])
      clear hm E hT))
  all_goals exact JJ rfl rfl rfl OA (Af.trans H) d.out
 .obtain⟨x,p,q,r,t,rfl⟩:∃x p q r t,C=[x,p,q,r,t]:=by
   rcases C with _|⟨x,_|⟨p,_|⟨q,_|⟨r,_|⟨t,_|_⟩⟩⟩⟩⟩<;>simp_all
  have Hf:=λh=>hm (.inl h)
  have Bw:=D1.out;rw[lineP,XB Hf]at Bw;clear D1 hm;have A:(first=NC/\x≠[115,105,103,104,116])\/(first=ND/\x=[115,105,103,104,116])\/(first=ND/\x≠[115,104,111,116])->K8 first z (U7 x p q r t)=NB:=by
   intro h;cases hw:U7 x p q r t with
   |none=>rfl
   |some l=>
    have hk:=cg hw;cases l<;>first|rfl|(rcases h with⟨rfl,h⟩|⟨rfl,h⟩|⟨rfl,h⟩<;>first|rfl|exact absurd hk h|(rw[h]at hk;cases hk))
  replace Bw:Hid _:=Bw;by_cases B4:(first=NC/\x≠[115,105,103,104,116])\/(first=ND/\x=[115,105,103,104,116])\/(first=ND/\x≠[115,104,111,116])
  .obtain rfl:o=NB:=Bw.out.symm.trans (A B4);clear Bw A;rcases B4 with⟨rfl,hx⟩|⟨rfl,hx⟩|⟨rfl,hx⟩
   case' inl=>have a8:(x==[115,105,103,104,116])=ND:=XQ.2 hx
   case' inr.inl=>subst hx
   case' inr.inr=>
    have a8:(x==[115,104,111,116])=ND:=XQ.2 hx;have R4:(x==[115,105,103,104,116])=NC\/(x==[115,105,103,104,116])=ND:=(by cases (x==[115,105,103,104,116])<;>simp);rcases R4 with R4|R4
   all_goals
    go_enter fq Tryz.func51,Tryz.ntmps51;go_wp2_with fail;generalize (w.alloc (I #[z.a,z.b,z.c,z.m,Z ao n vc] 31)).alloc (I OG 31)=w1 at*
    go_wp2_with (first
     |(go_at_call 93;refine(hf _).mono ?_;rintro e w2 ⟨hW,H⟩
       rcases hW with⟨E,_⟩|⟨E,x',T,b,g,cp,hc,rfl,hT⟩
       .exact absurd E Hf
       cases hc;obtain⟨rfl,Bf,Hh,El⟩:=hT OD;have f:=H.get g1;have d:=H.get g2;have q0:=Z0 f 0;have q1:=Z0 f 1;have q2:=Z0 f 2;have q3:=Z0 f 3;have q4:=Z0 f 4;have Y:=Z0 d 0;have V:=Z0 d 1;have O:=Z0 d 2;have M:=Z0 d 3;have P:=Z0 d 4;have z0:=Z8 d 0;have z1:=Z8 d 1;have z2:=Z8 d 2;have z3:=Z8 d 3;have z4:=Z8 d 4;simp only[YC,YA,YB]at q0 q1 q2 q3 q4 Y V O M P;replace Bf:Hid _:=Bf;replace f:Hid _:=f;replace d:Hid _:=d))
    exact JJ rfl rfl rfl OA (Af.trans H) d.out
  .have M1:(first=NC/\x=[115,105,103,104,116])\/(first=ND/\x=[115,104,111,116]):=by
    cases first
    .exact .inr ⟨rfl,RX.1 λh=>B4 (.inr (.inr ⟨rfl,h⟩))⟩
    .exact .inl ⟨rfl,RX.1 λh=>B4 (.inl ⟨rfl,h⟩)⟩
   clear B4 A;have ln:∀y∈[p,q,r,t],y.length<=100000:=λy hy=>A1.out y (YW _ hy)
   rcases M1 with⟨rfl,rfl⟩|⟨rfl,rfl⟩
   .replace Bw:K8 NC z (match numsO [p,q,r,t]with
     |some [a,b,c,m]=>NA (.sight a b c m)
     |_=>NB)=o:=Bw.out
    cases hN:numsO [p,q,r,t]with
    |none=>
     rw[hN]at Bw;obtain rfl:NB=o:=Bw;replace hN:Hid _:=hN;go_enter fq Tryz.func51,Tryz.ntmps51;go_wp2_with fail;generalize (w.alloc (I #[z.a,z.b,z.c,z.m,Z ao n vc] 31)).alloc (I OG 31)=w1 at*
     go_wp2_with (first
      |(go_at_call 93;refine(hf _).mono ?_;rintro e w2 ⟨hW,H⟩
        rcases hW with⟨E,_⟩|⟨E,x',T,b,g,cp,hc,rfl,hT⟩
        .exact absurd E Hf
        cases hc;obtain⟨rfl,Bf,Hh,El⟩:=hT OD;have f:=H.get g1;have d:=H.get g2;have q0:=Z0 f 0;have q1:=Z0 f 1;have q2:=Z0 f 2;have q3:=Z0 f 3;have q4:=Z0 f 4;have Y:=Z0 d 0;have V:=Z0 d 1;have O:=Z0 d 2;have M:=Z0 d 3;have P:=Z0 d 4;have z0:=Z8 d 0;have z1:=Z8 d 1;have z2:=Z8 d 2;have z3:=Z8 d 3;have z4:=Z8 d 4;simp only[YC,YA,YB]at q0 q1 q2 q3 q4 Y V O M P;replace Bf:Hid _:=Bf;replace f:Hid _:=f;replace d:Hid _:=d)
      |(go_at_call 94;refine(K5 g 1 4 cp [p,q,r,t] _ rfl OA Bf.out Hh ln).mono ?_;rintro e w3 ⟨v3,rfl,Ic,Ad⟩
        rw[hN.out];replace q0:=Ad.cellS q0;replace q1:=Ad.cellS q1;replace q2:=Ad.cellS q2;replace q3:=Ad.cellS q3;replace q4:=Ad.cellS q4;replace d:=Ad.get d.out;replace Y:=Z0 d 0;replace V:=Z0 d 1;replace O:=Z0 d 2;replace M:=Z0 d 3;replace P:=Z0 d 4;replace z0:=Z8 d 0;replace z1:=Z8 d 1;replace z2:=Z8 d 2;replace z3:=Z8 d 3;replace z4:=Z8 d 4;simp only[YC,YA,YB]at Y V O M P;replace d:Hid _:=d))
     exact JJ rfl rfl rfl OA ((Af.trans H).trans Ad) d.out
    |some l=>
     obtain⟨a,b,c,m,rfl⟩:∃a b c m,l=[a,b,c,m]:=by
      have:=numsO_len hN;rcases l with _|⟨a,_|⟨b,_|⟨c,_|⟨m,_|_⟩⟩⟩⟩<;>simp_all
     rw[hN]at Bw;obtain rfl:NA (⟨a,b,c,m,z.L⟩:Sc)=o:=Bw;replace hN:Hid _:=hN;go_enter fq Tryz.func51,Tryz.ntmps51;go_wp2_with fail;generalize (w.alloc (I #[z.a,z.b,z.c,z.m,Z ao n vc] 31)).alloc (I OG 31)=w1 at*
     go_wp2_with (first
      |(go_at_call 93;refine(hf _).mono ?_;rintro e w2 ⟨hW,H⟩
        rcases hW with⟨E,_⟩|⟨E,x',T,bb,g,cp,hc,rfl,hT⟩
        .exact absurd E Hf
        cases hc;obtain⟨rfl,Bf,Hh,El⟩:=hT OD;have f:=H.get g1;have d:=H.get g2;have q0:=Z0 f 0;have q1:=Z0 f 1;have q2:=Z0 f 2;have q3:=Z0 f 3;have q4:=Z0 f 4;have Y:=Z0 d 0;have V:=Z0 d 1;have O:=Z0 d 2;have M:=Z0 d 3;have P:=Z0 d 4;have z0:=Z8 d 0;have z1:=Z8 d 1;have z2:=Z8 d 2;have z3:=Z8 d 3;have z4:=Z8 d 4;simp only[YC,YA,YB]at q0 q1 q2 q3 q4 Y V O M P;replace Bf:Hid _:=Bf;replace f:Hid _:=f;replace d:Hid _:=d)
      |(go_at_call 94;refine(K5 g 1 4 cp [p,q,r,t] _ rfl OA Bf.out Hh ln).mono ?_;rintro e w3 ⟨v3,rfl,Ic,Ad⟩
        rw[hN.out];replace f:=Ad.get f.out;have Ei:=Ic.out [a,b,c,m] hN.out;obtain⟨g',a7,rfl,Jo,Ij⟩:=XT Ei OD;have c0:=WL Ei 0 a rfl;have c1:=WL Ei 1 b rfl;have c2:=WL Ei 2 c rfl;have c3:=WL Ei 3 m rfl;have y0:=Z8 f 0;have y1:=Z8 f 1;have y2:=Z8 f 2;have y3:=Z8 f 3;replace q0:=Ad.cellS q0;replace q1:=Ad.cellS q1;replace q2:=Ad.cellS q2;replace q3:=Ad.cellS q3;replace q4:=Ad.cellS q4;replace d:=Ad.get d.out;replace Y:=Z0 d 0;replace V:=Z0 d 1;replace O:=Z0 d 2;replace M:=Z0 d 3;replace P:=Z0 d 4;replace z0:=Z8 d 0;replace z1:=Z8 d 1;replace z2:=Z8 d 2;replace z3:=Z8 d 3;replace z4:=Z8 d 4;simp only[YC,YA,YB]at Y V O M P;replace d:Hid _:=d;replace f:Hid _:=f;clear Ic Ei))
     rename_i K hK
     go_region
     all_goals
      refine hK _ _ ?_;go_wp2
     have Ag:=((Af.trans H).trans Ad);have As:=(((Ag.setCell (a:=⟨w.heap.size,0,NB⟩) (J U a) (XA _)).setCell (a:=⟨w.heap.size,1,NB⟩) (J U b) (XA _)).setCell (a:=⟨w.heap.size,2,NB⟩) (J U c) (XA _)).setCell (a:=⟨w.heap.size,3,NB⟩) (J U m) (XA _);have B0:=(Y2 (k:=w.heap.size+1) (J U a) (J U b) (J U c) (J U m) (Z ao n vc) As OA).drew;have g5:((((w3.setCell w.heap.size (J U a)).setCell ⟨w.heap.size,1,NB⟩ (J U b)).setCell ⟨w.heap.size,2,NB⟩ (J U c)).setCell ⟨w.heap.size,3,NB⟩ (J U m)).heap[w.heap.size+1]? =NA (I OG 31):=by
      rw[set_ne OD,set_ne OD,set_ne OD,set_ne OD];exact d.out
     have g6:=Yz (J U a) (J U b) (J U c) (J U m) (Z ao n vc) g5;rw[<-cq]at g6;refine GY rfl rfl rfl B0 g6 λa6 h=> ?_
     .cases h;exact⟨rfl,rfl,rfl,rfl,ZT hv.out B0⟩
   .replace Bw:K8 ND z (match numO p,Y3 q,numsO [r,t]with
     |some a,NA m,NA [wi,li]=>NA (.shot ⟨a,m.1,m.2,wi,li⟩)
     |_,_,_=>NB)=o:=Bw.out
    replace Bw:Hid _:=Bw;have Bo:=λw=>LR p w (ln _ OD)
    have C6:=λw=>HG q w (ln _ OD)
    have b4:∀y∈[r,t],y.length<=100000:=λy hy=>ln y (YW _ (YW _ hy))
    clear ln A1;obtain⟨b1,Be⟩:∃b1,Hid ((numO p).isSome=b1):=⟨_,rfl⟩;obtain⟨b2,Aw⟩:∃b2,Hid ((Y3 q).isSome=b2):=⟨_,rfl⟩;obtain⟨b3,C1⟩:∃b3,Hid ((numsO [r,t]).isSome=b3):=⟨_,rfl⟩;obtain⟨a0,a4⟩:∃a0,Hid ((numO p).getD 0=a0):=⟨_,rfl⟩;rw[Be.out,a4.out]at Bo;rw[Aw.out]at C6;have Co:Hid ((b1&&b2&&b3)=ND->o=NB):=by
     show _->_;intro h;rw[<-Be.out,<-Aw.out,<-C1.out]at h;rw[<-Bw.out];cases E:numO p<;>cases h2:Y3 q<;>cases h3:numsO [r,t]<;>first|rfl|(rw[E,h2,h3]at h;cases h)
    have Wl:Hid (∀a b,numO p=NA a->Y3 q=NA b->∀l,numsO [r,t]=NA l->∃wi li,l=[wi,li]/\o=NA {z with L:=z.L++[⟨a,b.1,b.2,wi,li⟩]}):=by
     show∀a b,_;intro a b E h2 l h3;obtain⟨wi,li,rfl⟩:∃wi li,l=[wi,li]:=by
      have:=numsO_len h3;rcases l with _|⟨a,_|⟨b,_|_⟩⟩<;>simp_all
     exact⟨wi,li,rfl,by rw[<-Bw.out,E,h2,h3];rfl⟩
    clear Bw;cases b1<;>cases b2<;>cases b3
    all_goals
     go_enter fq Tryz.func51,Tryz.ntmps51;go_wp2_with fail;generalize (w.alloc (I #[z.a,z.b,z.c,z.m,Z ao n vc] 31)).alloc (I OG 31)=w1 at*
     go_wp2_with (first
      |(go_at_call 93;refine(hf _).mono ?_;rintro e w2 ⟨hW,H⟩
        rcases hW with⟨E,_⟩|⟨E,x',T,bb,g,cp,hc,rfl,hT⟩
        .exact absurd E Hf
        cases hc;obtain⟨rfl,Bf,Hh,El⟩:=hT OD;have f:=H.get g1;have d:=H.get g2;have q0:=Z0 f 0;have q1:=Z0 f 1;have q2:=Z0 f 2;have q3:=Z0 f 3;have q4:=Z0 f 4;have Y:=Z0 d 0;have V:=Z0 d 1;have O:=Z0 d 2;have M:=Z0 d 3;have P:=Z0 d 4;have z0:=Z8 d 0;have z1:=Z8 d 1;have z2:=Z8 d 2;have z3:=Z8 d 3;have z4:=Z8 d 4;simp only[YC,YA,YB]at q0 q1 q2 q3 q4 Y V O M P;replace Bf:Hid _:=Bf;replace f:Hid _:=f;replace d:Hid _:=d;have c0:w2.cell? ⟨g,1,NB⟩=NA (str p):=Bf.out 0 p rfl;have c1:w2.cell? ⟨g,2,NB⟩=NA (str q):=Bf.out 1 q rfl;have ct:CT w2 g 3 [r,t]:=λj y hy=>by have:=Bf.out (j+2) y hy;rwa [show 1+(j+2)=3+j by omega]at this
        replace El:4<=cp:=El)
      |(go_at_call 96;(with_reducible refine(Bo _).q ?_))
      |(go_at_call 95;(with_reducible refine(C6 _).mono ?_);rintro e w4 ⟨l0,l1,rfl,hB,Ag⟩
        have E9:=Ag.alloc (I #[l0,l1] 49);have Wm:=ct.ext E9;have Bu:=E9.lt Hh)
      |(go_at_call 94;refine(K5 g 3 2 (cp - 2) [r,t] _ rfl OA Wm Bu b4).mono ?_;rintro e w5 ⟨v5,rfl,a5,As⟩
        rw[C1.out];have Ej:=E9.trans As;replace f:=Ej.get f.out;replace d:=Ej.get d.out;replace q0:=Z0 f 0;replace q1:=Z0 f 1;replace q2:=Z0 f 2;replace q3:=Z0 f 3;replace q4:=Z0 f 4;replace Y:=Z0 d 0;replace V:=Z0 d 1;replace O:=Z0 d 2;replace M:=Z0 d 3;replace P:=Z0 d 4;replace z0:=Z8 d 0;replace z1:=Z8 d 1;replace z2:=Z8 d 2;replace z3:=Z8 d 3;replace z4:=Z8 d 4;simp only[YC,YA,YB]at q0 q1 q2 q3 q4 Y V O M P;replace f:Hid _:=f;replace d:Hid _:=d))
     try
      obtain rfl:o=NB:=Co.out rfl;exact JJ rfl rfl rfl OA ((Af.trans H).trans Ej) d.out
    obtain⟨a9,k1⟩:∃a,numO p=NA a:=UI.1 Be.out;obtain⟨b9,k2⟩:∃a,Y3 q=NA a:=UI.1 Aw.out;obtain⟨l,k3⟩:∃a,numsO [r,t]=NA a:=UI.1 C1.out;obtain⟨wi,li,rfl,Sy⟩:=Wl.out a9 b9 k1 k2 l k3;obtain rfl:a0=a9:=(by rw[<-a4.out,k1];rfl);obtain rfl:=hB.out _ k2;have Mz:=a5.out _ k3;obtain⟨g',a7,rfl,Jo,Ij⟩:=XT Mz OD;have n4:=WL Mz 0 wi rfl;have n5:=WL Mz 1 li rfl;have m4:w5.heap[w4.heap.size]? =NA (I #[l0,l1] 49):=As.get (by rw[Z3,YZ rfl]);have n2:=Z0 m4 0;have n3:=Z0 m4 1;simp only[YC,YA,YB]at n2 n3;have i0:=Z5 f.out;have i2:=Z5 m4;have i3:=Ij;replace Sy:Hid _:=Sy;have Og:=(Af.trans H).size;have Sv:=Ej.size;clear Bo C6 Be Aw C1 a4 Co Wl k1 k2 k3 a5 Mz hB c0 c1 ct Wm;have hD:=(Ext.rfl' w5).drew;refine BM (ExtX λq=>w5.heap.size<=q) 16 OB ?_;replace f:=hD.get f.out;replace d:=hD.get d.out;replace n2:=hD.cellS n2;replace n3:=hD.cellS n3;replace n4:=hD.cellS n4;replace n5:=hD.cellS n5;replace q4:=hD.cellS q4;have Ip:=ZT hv.out (((Af.trans H).trans Ej).trans hD)
    rw[show w5.heap.size=w5.drew.heap.size from rfl]at i0 i2 i3⊢;clear q0 q1 q2 q3 Y V O M P z0 z1 z2 z3 z4;generalize w5.drew=w7 at f d Ip n2 n3 n4 n5 q4 i0 i2 i3 hD⊢;have nX:∀k,k<w7.heap.size->¬(λq=>w7.heap.size<=q) k:=λk h h2=>absurd (show w7.heap.size<=k from h2) OA
    have gq:=GrE.cell (X:=λq=>w7.heap.size<=q) (nX _ i0) q4;have f2:=GrE.cell (X:=λq=>w7.heap.size<=q) (nX _ i2) n2;have f3:=GrE.cell (X:=λq=>w7.heap.size<=q) (nX _ i2) n3;have f4:=GrE.cell (X:=λq=>w7.heap.size<=q) (nX _ i3) n4;have f5:=GrE.cell (X:=λq=>w7.heap.size<=q) (nX _ i3) n5;refine Iv (ExtX.pre _) [1,2,4,5,6,7,8,9,10,11,12] OB OB ?_;simp only[ZR,YB,YA,YK,YJ]
    repeat (go_big_quiet_step (fail))
    refine XI ?_;clear gq f2 f3 f4 f5;have G2:=hn.out;have J3:(z.L.flatMap rsC).length=n*5:=by have:=Ip.1;rwa [G2]at this
    have Lf:ao=NB->n=0:=λh=>by
     rcases Ip.2 with⟨_,E⟩|⟨_,_,_,E,_⟩
     .exact G2.symm.trans E
     .rw[h]at E;cases E
    have O3:∀W,Ext w7 W->∀ad,ao=NA ad->∀(j:Nat) u,(z.L.flatMap rsC)[j]? =NA u->W.cell? (ad.add j)=NA u:=λW hW ad h j u hj=>by
     subst h;rcases Ip.2 with⟨E,_⟩|⟨g9,_,_,E,_⟩
     .cases E
     .cases E;exact hW.cellS (Ip.cells rfl j u hj)
    have Bo:∀u∈z.L.flatMap rsC,u.oneCell'=NC:=λu hu=>by
     obtain⟨s,_,hs⟩:=TV.1 hu;simp only[rsC,XG,XO,UE]at hs;rcases hs with rfl|rfl|rfl|rfl|rfl<;>rfl
    replace O3:Hid _:=O3;replace J3:Hid _:=J3;replace Lf:Hid _:=Lf;replace Bo:Hid _:=Bo
    refine bE 0 3 13 102 105 115 75 5 n #[J U a0,l0,l1,J U wi,J U li] (z.L.flatMap rsC) rfl rfl rfl rfl rfl rfl OC OC OB (λ_=>rfl) (λ_=>rfl) (λ_=>rfl) (λa W=>by simp[go_sem,NU,Act.eval])
     (by
       intro a' W ha;rcases ha with rfl|⟨v,rfl⟩|⟨v,v',rfl⟩<;>simp[go_sem,NU,Act.eval])
     (by
       intro a' b W ha hW hb hB;refine cN (.tmp 102) (.tmp 104) 29 w7.heap.size 75 5 40 Tryz.t75 _ rfl u29p i75p t75z t75s t75b rfl OC b hB hb ?_ ao n vc _ ?_ J3.out Lf.out (O3.out W hW) Bo.out (by simp[maxLen];omega) OA hW.size
       .rcases ha with rfl|⟨v',rfl⟩|⟨v',rfl⟩<;>simp[go_sem,Act.eval]
       .rcases ha with rfl|⟨v',rfl⟩|⟨v',rfl⟩<;>simp[go_sem,Act.eval])
     (λq hq=>hq) (λW8 v1 v3 bn Ds a1 Jy=> ?_)
    go_simp;obtain⟨X1,N6⟩:∃X:Rs,X=⟨a0,l0,l1,wi,li⟩:=⟨_,rfl⟩
    have D6:∀(j:Nat) u,(rsC X1)[j]? =NA u->W8.cell? ((⟨bn,0,NB⟩:NP).add j)=NA u:=λj u hj=>by
     rw[ZU,Z0 Jy];rw[N6]at hj;simpa[rsC]using hj
    refine PV 14 rfl OB rfl ?_
    refine wp_append_own W8 (.tmp 105) (.tmp 115) 29 rfl w7.heap.size 75 Tryz.t75 _ 5 40 u29p i75p t75z t75s t75b rfl OC _ n _ rfl a1 bn 1 1 (rsC X1) rfl rfl D6 (by intro u hu;rw[N6]at hu;simp only[rsC,XG,XO,UE]at hu;rcases hu with rfl|rfl|rfl|rfl|rfl|rfl|rfl<;>rfl)
     (by simp[maxLen];omega) OA Ds.size ?_
    intro v4 W9 a3 Bu _;have Bn:=Ds.grown Bu (λk hk=>(a1.lt k hk).1);refine⟨λ_=>Oy Bu (λk hk=>(a1.lt k hk).1),?_⟩;have a2:WC w7.heap.size W9 v4 (z.L++[X1]):=by
     rw[WC,XH,List.flatMap_append,G2];simpa using a3
    clear Bu a1 Jy D6 a3 O3 J3 Lf Bo Ds n2 n3 n4 n5 q4 W8;obtain⟨am,cm,rfl,Ms⟩:=FD a2;rw[show(z.L++[X1]).length=n+1 by rw[XH,G2];rfl]at Ms a2⊢;have g5:=Bn.get f;have k4:=Z0 g5 4;have x4:=Z8 g5 4;simp only[YC,YA,YB]at k4;go_simp;refine Iv (ExtX.pre _) [15] OB OB ?_;simp only[ZR,YB,YA,YK,YJ]
    repeat (go_big_quiet_step (fail))
    refine XI ?_;refine PV 16 rfl OB rfl ?_;refine JN ⟨W9.setCell ⟨w.heap.size,4,NB⟩ (Z am (n+1) cm),by simp[go_sem,NU,Act.eval,k4,x4],λh=>absurd h OC,?_⟩;go_simp;refine aC OB ?_;have g6:=Zb g5 (i:=4) (Z am (n+1) cm);have g7:=(set_ne (w:=W9) (a:=⟨w.heap.size,4,NB⟩) (b:=w.heap.size+1) OD (Z am (n+1) cm)).trans (Bn.get d);have Lp:WC w7.heap.size (W9.setCell ⟨w.heap.size,4,NB⟩ (Z am (n+1) cm)) (Z am (n+1) cm) (z.L++[X1]):=XK a2 (a:=⟨w.heap.size,4,NB⟩) i0 (Z am (n+1) cm);have i5:=Z5 d;have B0:=(((((Af.trans H).trans Ej).trans hD).trans Bn).setCell (a:=⟨w.heap.size,4,NB⟩) (Z am (n+1) cm) (XA _));generalize W9.setCell ⟨w.heap.size,4,NB⟩ (Z am (n+1) cm)=b5 at g6 g7 Lp B0⊢;have q0:=Z0 g6 0;have q1:=Z0 g6 1;have q2:=Z0 g6 2;have q3:=Z0 g6 3;have q4:=Z0 g6 4;have Y:=Z0 g7 0;have V:=Z0 g7 1;have O:=Z0 g7 2;have M:=Z0 g7 3;have P:=Z0 g7 4;have z0:=Z8 g7 0;have z1:=Z8 g7 1;have z2:=Z8 g7 2;have z3:=Z8 g7 3;have z4:=Z8 g7 4;simp only[YC,YA,YB,VM,UJ,UU]at q0 q1 q2 q3 q4 Y V O M P
    replace g7:Hid _:=g7;replace Lp:Hid _:=Lp;clear g6 g5 k4 x4 a2 Ms Bn hD Ej E9 f d Ip;clear hf;go_wp2;rw[Sy.out,<-N6];refine GY rfl rfl rfl (Y2 _ _ _ _ _ B0 OA) (Yz _ _ _ _ _ g7.out) λa6 h=> ?_
    cases h;exact⟨rfl,rfl,rfl,rfl,WX (N1 _ _ _ _ _ Lp.out i5) OA⟩
def runC:Nat->Sc->List (List UInt8)->Sc ⊕ Nat
 |_,st,[]=> .inl st
 |i,st,l::r=>match Wd (decide (i=0)) st l with
  |some d=>runC (i+1) d r
  |none=> .inr (i+1)
def sc0:Sc:=⟨0,0,0,0,[]⟩
def Vf(t:List UInt8):Sc×Int×Int:=match runC 0 sc0 (Y1 t)with
 | .inr k=>(sc0,k,3)
 | .inl d=>if Y1 t=[]then(sc0,0,3)else if ZC d.a d.b d.c d.m d.L=0 then(d,0,0)else(sc0,0,ZC d.a d.b d.c d.m d.L)
def LO(r:Sc×Int×Int)(e:Ending)(w':NL):Prop:=∃ao cp,e= NK (.tuple #[NJ #[r.1.a,r.1.b,r.1.c,r.1.m,Z ao r.1.L.length cp],r.2.1,r.2.2])/\RawS w' ao r.1.L
def runC_app:∀(P Q:List (List UInt8))(i:Nat)(d:Sc),runC i d (P++Q)=match runC i d P with
  | .inl s=>runC (i+P.length) s Q
  | .inr k=> .inr k
 |[],Q,i,d=>rfl
 |l::P,Q,i,d=>by
  rw[YK,runC,runC];cases Wd (decide (i=0)) d l with|none=>rfl|some s=>simp only[runC_app P Q (i+1) s,YP,TA,Nat.add_comm 1]
def okC:Ln->Bool
 | .sight .. | .shot _=>NC
 |_=>ND
def ay{st:Sc}:(Wd (decide (i=0)) st s).isSome=Xk okC i s:=by
 unfold Wd K8 Xk;cases WN s with|none=>rfl|some l=>cases l<;>cases decide (i=0)<;>rfl
def CW{N:List (List UInt8)}:∀{i:Nat},i<=N.length->Gd okC N i->∃st,runC 0 sc0 (N.take i)= .inl st
 |0,_,_=>⟨sc0,by simp[runC]⟩
 |i+1,hi,hg=>by
  obtain⟨st,h⟩:=CW (i:=i) OA λj B _=>hg j B OA
  have d:=YH (l:=N) (i:=i) OA;have:=hg i _ OA d;rw[<-ay (st:=st)]at this;obtain⟨s,f⟩:=UI.1 this;refine⟨s,?_⟩;rw[VL,d,runC_app,h];simp only[RL,runC,VN,VD,TO (Nat.le_of_succ_le hi),f]
def lk{N:List (List UInt8)}(g:N[k]? =NA B)(j:Gd okC N k)(f:Xk okC k B=ND):runC 0 sc0 N= .inr (k+1):=by
 obtain⟨d,rfl⟩:=YI.1 g;obtain⟨st,h⟩:=CW OA j;rw[<-QB k N,VP d,runC_app,h];rw[<-ay (st:=st),Option.isSome_eq_false_iff,SB]at f;simp only[runC,VN,VD,TO (Nat.le_of_lt d),f]
def db{N:List (List UInt8)}{g d:Sc}(f:N[i]? =NA B)(h:runC 0 sc0 (N.take i)= .inl g)(j:Wd (decide (i=0)) g B=NA d):runC 0 sc0 (N.take (i+1))= .inl d:=by
 obtain⟨hi,_⟩:=YI.1 f;rw[VL,f,runC_app,h];simp only[RL,runC,VN,VD,TO (Nat.le_of_lt hi),j]
def Ou(C:F.results= #[.cell 2 31,.tmp 3,.tmp 4]){w W:NL}{k:Nat}{r:Sc×Int×Int}{ao:Option NP}{cp:Nat}{act:Act}(j:act.tmps.getD 2 NQ= NI (NA k))(x:act.tmps.getD 3 NQ= J U r.2.1)(o:act.tmps.getD 4 NQ= J U r.2.2)(y:act.defers=[])
 (z:Ext w W)(d:W.heap[k]? =NA (I #[r.1.a,r.1.b,r.1.c,r.1.m,Z ao r.1.L.length cp] 31))(A:RawS W ao r.1.L):
 bodyPost NY F (λe w'=>LO r e w'/\Ext w w') Exit.ret act W:=by
 refine VE (v:= .tuple #[NJ #[r.1.a,r.1.b,r.1.c,r.1.m,Z ao r.1.L.length cp],r.2.1,r.2.2]) ?_ y ⟨⟨ao,cp,rfl,A⟩,z⟩;have p:=Z0 d 0;have u:=Z0 d 1;have h:=Z0 d 2;have f:=Z0 d 3;have g:=Z0 d 4;simp only[YC,YA,YB]at p u h f g;show(results F _).run NY _=_;unfold results;rw[C];simp only[Array.getD_eq_getD_getElem?]at j x o;simp[go_sem,j,x,o,p,u,h,f,g]
@[local go_sem] def te96 (v:NM) (w:NL):(Instr.typeAssert (.iface 96 v) 94 108 NC).run NY w= .ok (.tuple #[NJ #[J U 0,J U 0,J U 0,J U 0],.bool ND]) w:=OB
@[local go_sem] def tf96 (v:NM) (w:NL):(Instr.typeAssert (.iface 96 v) 94 110 NC).run NY w= .ok (.tuple #[NJ #[J U 0,J U 0,J U 0,J U 0,J U 0],.bool ND]) w:=OB
@[local go_sem] def te98 (v:NM) (w:NL):(Instr.typeAssert (.iface 98 v) 94 108 NC).run NY w= .ok (.tuple #[NJ #[J U 0,J U 0,J U 0,J U 0],.bool ND]) w:=OB
@[local go_sem] def tf98 (v:NM) (w:NL):(Instr.typeAssert (.iface 98 v) 94 110 NC).run NY w= .ok (.tuple #[NJ #[J U 0,J U 0,J U 0,J U 0,J U 0],.bool ND]) w:=OB
def io{l:Ln}(d:okC l=ND)(p:NM)(w:NL):NW NY 50 #[lnV l,p] w (OJ (.bool ND) w):=by
 cases l with
 |sight=>cases d
 |shot=>cases d
 |rule a b c m=>
  unfold lnV;go_enter fq Tryz.func50,Tryz.ntmps50;go_wp2;go_ret;exact⟨rfl,rfl⟩
 |shaft s=>
  unfold lnV;go_enter fq Tryz.func50,Tryz.ntmps50;go_wp2;go_ret;exact⟨rfl,rfl⟩
def JC(N:List (List UInt8))(sb:Nat)(w0:NL)(f i:Nat)(W:NL):Prop:=
 sb<f/\Ext w0 W/\∃(d:Sc)(v:NM),runC 0 sc0 (N.take i)= .inl d/\W.heap[sb]? =NA (I #[d.a,d.b,d.c,d.m,v] 31)/\WC f W v d.L/\d.L.length<=i
def kw(t:List UInt8)(w0 w:NL)(sb:Nat)(ht:t.length<=2000)(hx:MaxL w0)(he:ErrF w0)(P:w0.heap.size<=sb)(hE:Ext w0 w)
 (u:w.heap[sb]? =NA (I OG 31)):
 NW NY 45 #[str t,.func (.func 50) #[] #[NI (NA sb)]] w (ON okC (Y1 t) (λW'=>∃f,JC (Y1 t) sb w0 f (Y1 t).length W') (XS 31 sb w0)):=by
 have A5:=Z5 u;have a0:=LD t;refine aw 50 sb okC t (JC (Y1 t) sb w0) (XS 31 sb w0) w0 w ht P A5 hx he (MN 50) (λ_ _ _ h=>h.2.1) ?X (λW W' E h y A=>XS.keep W W' E h y A) ?tk ?keep ?st
 case X=>
  rintro f i W ⟨_,j,st,v,_,p,_⟩;exact⟨j,_,_,_,_,_,p⟩
 case st=>
  intro f hn;exact⟨OA,hE,sc0,_,by simp[runC],u,VJ _ _ _ _,XL _⟩
 case keep=>
  rintro f i W W' E ⟨g,j,st,v,p,o,K,T⟩ y A;exact⟨g,KA j y λr e=>(A r e).1,st,v,p,(y.block sb (Z5 o) (λe=>(A _ e.symm).2.1 rfl)).trans o,aP K y λr e=>(A r e).2.2,T⟩
 case tk=>
  rintro f i W B l hB hl hh ⟨g,j,st,v,p,o,K,T⟩ hn;have hi:i<(Y1 t).length:=(YI.1 hB).1
  have d:okC l=ND->NW NY 50 #[lnV l,NI (NA sb)] W λe W'=>e= NK (.bool (okC l))/\(okC l=NC->JC (Y1 t) sb w0 f (i+1) W')/\XS 31 sb w0 W'/\Kpt sb f W W':=λV=>
   (io V _ W).mono (by rintro e W' ⟨rfl,rfl⟩;exact⟨by rw[V],λh=>(by rw[V]at h;cases h),⟨j,_,_,_,_,_,o⟩,Kpt.rfl' _ _ _⟩)
  cases l with
  |rule=>exact d rfl
  |shaft=>exact d rfl
  |sight a b c m=>
   have u:Wd (decide (i=0)) st B=NA ⟨a,b,c,m,st.L⟩:=by rw[Wd,hl,<-hh];rfl
   refine(kG a b c m sb f v W _ _ _ _ o hn).mono ?_;rintro e W' ⟨rfl,z,H,M,Y,g5,O⟩;have C:=Ix j P g H Y g5 O;exact⟨rfl,λ_=>⟨g,C,_,v,db hB p u,z,M st.L g K,by show st.L.length<=_;omega⟩,⟨C,_,_,_,_,_,z⟩,H⟩
  |shot x=>
   have u:Wd (decide (i=0)) st B=NA {st with L:=st.L++[x]}:=by rw[Wd,hl,<-hh];rfl
   refine(oc x sb f v st.L W _ _ _ _ o hn g K OA).mono ?_;rintro e W' ⟨rfl,v',z,H,M,Y,g5,O⟩;have C:=Ix j P g M Y g5 O;exact⟨rfl,λ_=>⟨g,C,_,v',db hB p u,z,H,by rw[XH];exact Nat.succ_le_succ T⟩,⟨C,_,_,_,_,_,z⟩,M⟩
def it{t:List UInt8}{e:Ending}(h:ON okC (Y1 t) (λW'=>∃o,JC (Y1 t) sb w0 o (Y1 t).length W') (XS 31 sb w0) e W'):
 (∃d,Vf t=(if ZC d.a d.b d.c d.m d.L=0 then(d,0,0)else(sc0,0,ZC d.a d.b d.c d.m d.L))/\e= NK .nilIface/\Ext w0 W'/\∃ao cp,W'.heap[sb]? =NA (I #[d.a,d.b,d.c,d.m,Z ao d.L.length cp] 31)/\RawS W' ao d.L)\/
 (∃n:Int,Vf t=(sc0,n,3)/\e= NK (.iface 101 (NJ #[n,J U 3]))/\XS 31 sb w0 W'):=by
 rcases h with⟨_,j,rfl,o,_,x,d,v,g,y,A,_⟩|⟨k,B,C,E,H,rfl,f⟩|⟨u,rfl,f⟩
 .rw[TC]at g;have p:Y1 t≠[]:=λh=>by rw[h]at j;cases j
  obtain⟨ao,cp,rfl,z⟩:=EV A;exact .inl ⟨d,by rw[Vf,g];simp only[XB p],rfl,x,ao,cp,y,z⟩
 .exact .inr ⟨_,by rw[Vf,lk C H E];push_cast;rfl,rfl,f⟩
 .exact .inr ⟨0,by rw[Vf,u];rfl,rfl,f⟩
def iu(t:List UInt8)(w:NL)(ht:t.length<=2000)(hx:MaxL w)(he:ErrF w)(H:ErT w):NW NY 14 #[str t] w λe w'=>LO (Vf t) e w'/\Ext w w':=by
 have Af:Ext w (w.alloc (I OG 31)):=(Ext.rfl' w).alloc _;have Hc:(w.alloc (I OG 31)).heap[w.heap.size]? =NA (I OG 31):=by rw[Z3,YZ rfl]
 have Lz:=kw t w _ w.heap.size ht hx he (XA _) Af Hc;have C:=fun(f:Sc) W u M T=>P8 f.a f.b f.c f.m u f.L.length M f.L W rfl T
 simp only[Zh]at C;clear Af Hc ht hx he;replace H:Hid (ErT w):=H;replace C:Hid _:=C;obtain⟨r,P⟩:∃r,Vf t=r:=⟨_,rfl⟩;rw[P];go_enter fq Tryz.func14,Tryz.ntmps14;go_wp2_with fail;refine Lz.mono ?_;rintro e p V;rcases it V with⟨f,j,rfl,E,ao,cp,A,H8⟩|⟨n,j,rfl,E,x0,x1,x2,x3,x4,A⟩
 all_goals
  rw[P]at j;replace j:Hid (r=_):=j;clear V P
 case' inr=>
  have y:=E.alloc (I OH 101);have o:=((Ext.rfl' p).alloc (I OH 101)).get A;have M4:(p.alloc (I OH 101)).heap[p.heap.size]? =NA (I OH 101):=by rw[Z3,YZ rfl]
  have Jq:=H.out.ext y;have Ab:=Nat.ne_of_lt (Z5 A)
  go_wp2_with (go_at_call 47;(with_reducible refine(cj n 3 p.heap.size _ _ w _ Jq M4 y E.size).mono ?_);rintro e w3 ⟨rfl,d,z,Wk⟩
               have g:=Wk _ _ o Ab)
  have q0:=Z0 d 0;have q1:=Z0 d 1;have p0:=Z0 g 0;have p1:=Z0 g 1;have p2:=Z0 g 2;have p3:=Z0 g 3;have p4:=Z0 g 4;have z0:=Z8 g 0;have z1:=Z8 g 1;have z2:=Z8 g 2;have z3:=Z8 g 3;have z4:=Z8 g 4;simp only[YC,YA,YB]at q0 q1 p0 p1 p2 p3 p4;have a0:=Ab.symm;clear Wk M4 o Jq y Lz;replace d:Hid _:=d;replace g:Hid _:=g;rename_i K hK
  go_region
  all_goals
   refine hK _ _ ?_;go_wp2;rw[j.out];exact Ou OB (k:=w.heap.size) (r:=(sc0,n,3)) rfl rfl rfl rfl (Y2 _ _ _ _ _ z (XA _)).drew (Yz _ _ _ _ _ g.out) (λi x h=>by simp[sc0]at h)
 case' inl=>
  obtain⟨F,O⟩:∃F,ZC f.a f.b f.c f.m f.L=F:=⟨_,rfl⟩;rw[O]at j;have Do:=λW T=>C.out f W ao cp T
  rw[O]at Do;have y:=E.alloc (I OH 101);have o:=((Ext.rfl' p).alloc (I OH 101)).get A;have X:=H8.ext ((Ext.rfl' p).alloc (I OH 101));have q0:=Z0 o 0;have q1:=Z0 o 1;have q2:=Z0 o 2;have q3:=Z0 o 3;have q4:=Z0 o 4;simp only[YC,YA,YB]at q0 q1 q2 q3 q4;clear O;by_cases h0:F=0
  case' pos=>
   subst h0;replace j:Hid (r=(f,0,0)):=j.out.trans (YZ rfl)
  case' neg=>
   replace j:Hid (r=(sc0,0,F)):=j.out.trans (XB h0)
  all_goals
   go_wp2_with (first
    |(go_at_call 47;refine(cG _ _).q ?_)
    |(go_at_call 43;refine(Do _ X).r λw4 z=> ?_
      have d:=z.get o;have As:=y.trans z;have In:=X.ext z;have s0:=Z0 d 0;have s1:=Z0 d 1;have s2:=Z0 d 2;have s3:=Z0 d 3;have Y:=Z0 d 4;have z0:=Z8 d 0;have z1:=Z8 d 1;have z2:=Z8 d 2;have z3:=Z8 d 3;have z4:=Z8 d 4;simp only[YC,YA,YB]at s0 s1 s2 s3 Y))
  .rw[j.out];exact Ou OB (k:=w.heap.size) (r:=(sc0,0,F)) rfl rfl rfl rfl (Y2 _ _ _ _ _ As (XA _)) (Yz _ _ _ _ _ d) (λi x h=>by simp[sc0]at h)
  .rw[S3 s0,S3 s1,S3 s2,S3 s3,S3 Y,j.out];exact Ou OB (k:=w.heap.size) (r:=(f,0,0)) rfl rfl rfl rfl As d In
def Pw(x0 x1 x2 x3 x4:NM)(h:b≠k):(U8 W k x0 x1 x2 x3 x4).heap[b]? =W.heap[b]? :=by
 rw[set_ne (by exact h),set_ne (by exact h),set_ne (by exact h),set_ne (by exact h),set_ne (by exact h)]
def AC{T:List (List UInt8)}(h:CT w b off T)(e:w'.heap[b]? =w.heap[b]?):CT w' b off T:=λj x d=>by
 have:=h j x d;unfold World.cell? at*;rw[e];exact this
def Kw{B d:Nat}{c:Array NM}(h:w.ownsRow d e sz v n xs)(j:w.heap[B]? =NA (I c t))(g:t≠e)(i:Nat)(x:NM):(w.setCell ⟨B,i,NB⟩ x).ownsRow d e sz v n xs:=by
 have o:w.grownBy (w.setCell ⟨B,i,NB⟩ x) (NA B):=⟨rfl,rfl,rfl,OD,λk _ f=>set_ne (λe:k=B=>f (by rw[e])) x⟩;refine h.kept o ?_;cases hv:v.ownBlock with|none=>exact .inl rfl|some k=>exact .inr λq=>EY h j g (hv.trans q)
def df{g:Nat}(a b c d f:NM)(h:W.ownsRow g e sz v n xs)(u:W.heap[k]? =NA (I #[x0,x1,x2,x3,x4] t))(j:t≠e):(U8 W k a b c d f).ownsRow g e sz v n xs:=by
 have o:=Zb u (i:=0) a;have p:=Zb o (i:=1) b;have x:=Zb p (i:=2) c;have y:=Zb x (i:=3) d;exact Kw (Kw (Kw (Kw (Kw h u j 0 a) o j 1 b) p j 2 c) x j 3 d) y j 4 f
def nL(t:List UInt8)(w:NL)(ht:t.length<=2000):NW NY 12 #[str t] w λe w'=>KS (V0 t) e w'/\Ext w w':=by
 have Fd:=λw=>BJ t w OA
 have Ff:Hid (∀y∈Y1 t,y.length<=2000):=λy hy=>XC (HJ hy) ht
 have Ox:=LD t;obtain⟨R,hR⟩:∃R,Hid (V0 t=R):=⟨_,rfl⟩;rw[hR.out];have Ez:=hR.out;rw[V0]at Ez;clear hR;generalize Y1 t=L at Fd Ff Ox Ez;replace Ez:Hid _:=Ez;have Af:Ext w ((w.alloc (I OG 26)).alloc (I OG 26)):=((Ext.rfl' w).alloc _).alloc _;have g1:((w.alloc (I OG 26)).alloc (I OG 26)).heap[w.heap.size]? =NA (I OG 26):=by
  simp only[Z3,Z2];rw[XB OA,YZ trivial]
 have g2:((w.alloc (I OG 26)).alloc (I OG 26)).heap[w.heap.size+1]? =NA (I OG 26):=by
  simp only[Z3,Z2];rw[YZ trivial]
 go_enter fq Tryz.func12,Tryz.ntmps12;go_wp2_with fail;generalize (w.alloc (I OG 26)).alloc (I OG 26)=w1 at*
 go_wp2_with (first|(go_at_call 48;refine(Fd _).mono ?_;rintro e w2 ⟨g,cp,rfl,Bf,A2,Cu,hg⟩))
 have g3:=A2.get g1;have g4:=A2.get g2;have On:=Z5 g2;have Js:=Af.trans A2;have O7:Hid (w.heap.size+1<w1.heap.size):=On;replace Bf:Hid _:=Bf
 go_loopw [7,8,9] (λv7 _ _ wr=>∃(i:Nat)(d:St)(v:NM),v7= J U i/\i<=L.length/\Ext w wr/\wr.heap[w.heap.size]? =NA (I OG 26)/\
  wr.heap[w.heap.size+1]? =NA (I #[d.a,d.b,d.c,d.m,v] 26)/\Xy w1.heap.size wr v d.L/\w1.heap.size<=wr.heap.size/\CT wr g 0 L/\g<wr.heap.size/\Hid (runS 0 st0 L=runS i d (L.drop i))/\Hid (∀x∈d.L,x.nm.size<=2000)/\d.L.length<=i) (λv7 _ _ _=>L.length - (intOf v7).toNat)
 case atStart=>exact⟨0,st0,Z NB 0 0,rfl,XL _,Js,g3,g4,VJ _ _ _ _,A2.size,Bf.out,hg,rfl,(λx hx=>by cases hx),XA _⟩
 case round=>
  obtain⟨i,d,v,rfl,hi,hE,k0,k1,P,hz,V,Ew,Aj,Jh,J3⟩:=hrel;obtain⟨ao,vc,rfl,We⟩:=FG P;have q0:=Z0 k1 0;have q1:=Z0 k1 1;have q2:=Z0 k1 2;have q3:=Z0 k1 3;have q4:=Z0 k1 4;have p0:=Z0 k0 0;have p1:=Z0 k0 1;have p2:=Z0 k0 2;have p3:=Z0 k0 3;have p4:=Z0 k0 4;have z0:=Z8 k0 0;have z1:=Z8 k0 1;have z2:=Z8 k0 2;have z3:=Z8 k0 3;have z4:=Z8 k0 4;simp only[YC,YA,YB]at q0 q1 q2 q3 q4 p0 p1 p2 p3 p4;by_cases Ao:i=L.length
  .have Dz:=Aj.out;rw[Ao,UW,runS]at Dz;have C:=Ez.out;rw[Dz]at C;simp only at C;clear Dz Aj Ez;obtain⟨a7,a6,he,H8⟩:=HP P λx hx=>XC (Jh.out x hx) (by simp[maxLen])
   cases he;replace P:Hid _:=P;replace V:Hid _:=V;by_cases Fy:L=[]
   .rw[YZ Fy]at C;replace C:Hid _:=C;have Mv:L.length=0:=(by rw[Fy];rfl);rw[Mv]at Ao⊢;subst Ao;clear Fy Ff V Fd;go_wp2;rw[<-C.out];exact OK OB (k:=w.heap.size) (r:=(st0,0,3)) rfl rfl rfl rfl (Y2 _ _ _ _ _ hE (XA _)) (Yz _ _ _ _ _ k0) (λi x h=>by simp[st0]at h)
   .have Mv:¬(L.length:Int)=0:=λh=>Fy (SL.1 OA)
    rw[XB Fy]at C;obtain⟨F,hF⟩:∃F,Zp d.a d.b d.c d.m d.L=F:=⟨_,rfl⟩;have O8:d.L.length<=1000000:=OA;have Bb:=λW hS=>aB d.a d.b d.c d.m ao d.L.length vc d.L W rfl O8 hS
    rw[hF]at C Bb;subst Ao;clear Fy Ff V Fd hF O8;by_cases h0:F=0
    case' pos=>
     subst h0;rw[YZ rfl]at C
    case' neg=>rw[XB h0]at C
    all_goals
     replace C:Hid _:=C
     go_wp2_with (go_at_call 17;refine(Bb _ H8).r λw4 K=> ?_
                  have As:=hE.trans K;have H:=K.get k0;have j1:=K.get k1;have In:=H8.ext K;clear q0 q1 q2 q3 q4 p0 p1 p2 p3 p4 z0 z1 z2 z3 z4;have q0:=Z0 j1 0;have q1:=Z0 j1 1;have q2:=Z0 j1 2;have q3:=Z0 j1 3;have q4:=Z0 j1 4;have p0:=Z0 H 0;have p1:=Z0 H 1;have p2:=Z0 H 2;have p3:=Z0 H 3;have p4:=Z0 H 4;have z0:=Z8 H 0;have z1:=Z8 H 1;have z2:=Z8 H 2;have z3:=Z8 H 3;have z4:=Z8 H 4;simp only[YC,YA,YB]at q0 q1 q2 q3 q4 p0 p1 p2 p3 p4)
     rw[<-C.out]
    .exact OK OB (k:=w.heap.size) (r:=(st0,0,F)) rfl rfl rfl rfl (Y2 _ _ _ _ _ As (XA _)) (Yz _ _ _ _ _ H) (λi x h=>by simp[st0]at h)
    .obtain⟨ao3,vc3,he,Sr⟩:=HP (L:=d.L) (N1 (J U d.a) (J U d.b) (J U d.c) (J U d.m) (Z ao d.L.length vc) (ZT P.out K) (k:=w.heap.size) (by have:=O7.out;omega)) λx hx=>XC (Jh.out x hx) (by simp[maxLen])
     cases he;exact OK OB (k:=w.heap.size) (r:=(d,0,0)) rfl rfl rfl rfl (Y2 _ _ _ _ _ As (XA _)) (Yz _ _ _ _ _ H) Sr
  .obtain⟨l,hl⟩:∃l,L[i]? =NA l:=⟨_,YH OA⟩;have c0:wr.cell? ⟨g,i,NB⟩=NA (str l):=by have:=V i l hl;rwa [VD]at this
   obtain⟨o,ho⟩:∃o,Hid (Wu ((i:Int)==0) d l=o):=⟨_,rfl⟩;have Al:=λW (z:Ext wr W)=>kp d (Z ao d.L.length vc) l ((i:Int)==0) w1.heap.size W (XC (Ff.out l (YQ hl)) OA) (XC hz z.size) OA (ZT P z)
   rw[ho.out]at Al;have P0:((i:Int)==0)=decide (i=0):=by
    by_cases h:i=0
    .subst h;rfl
    .rw[XV h,XQ];omega
   rw[P0]at ho;clear P0;replace hl:Hid _:=hl;have A5:(i:Int)<L.length:=OA
   have G6:(i:Int)<=2001:=OA
   have i0:=Z5 k0;have i1:=Z5 k1;replace k0:Hid _:=k0;replace k1:Hid _:=k1;replace P:Hid _:=P;replace V:Hid _:=V;go_wp2;rename_i K9 Jr;have a2:=ZQ q0;have a3:=ZQ q1;have a1:=ZQ q2;have a4:=ZQ q3;have a5:=ZQ q4;have gc:=ZQ c0;obtain⟨B,Aq⟩:∃B,o.isSome=B:=⟨_,rfl⟩;have E1:∀W,Ext wr W->NW NY 49 #[NJ #[d.a,d.b,d.c,d.m,Z ao d.L.length vc],str l,.bool ((i:Int)==0)] W λe w'=>(∃(a b c m:Int)(ao:Option NP)(n cp:Nat),e= NK (.tuple #[NJ #[a,b,c,m,Z ao n cp],.bool B])/\∀d,o=NA d->a=d.a/\b=d.b/\c=d.c/\m=d.m/\Xy w1.heap.size w' (Z ao n cp) d.L)/\Ext W w':=λW z=>by rw[<-Aq];exact Al W z
   clear Al;refine Rt 12 11 8 [0,1,2,3,4,5,6,7,8,9] (I OG 26) OB rfl OB rfl rfl (λa W=>by simp[go_sem,NU,Act.eval]) ?_;refine WT [0,1,2,3,4,5,6] OB rfl rfl OB ?_;simp only[ZR,YB,YA,YK,YJ]
   repeat (go_big_quiet_step (fail))
   refine XI ?_;refine WV 7 rfl OB rfl (λW z=>Yd (f:=49) (args:= #[NJ #[d.a,d.b,d.c,d.m,Z ao d.L.length vc],str l,.bool ((i:Int)==0)]) OE ?_);refine(E1 W z).mono ?_;rintro e W2 ⟨⟨X,T,Y,m',u,M,p,rfl,hq⟩,K⟩;refine⟨.tuple #[NJ #[X,T,Y,m',Z u M p],.bool B],rfl,K,?_⟩;have hB:=z.trans K;clear z;go_simp;refine WT [8,9,10] OB rfl rfl OB ?_;simp only[ZR,YB,YA,YK,YJ]
   repeat (go_big_quiet_step (fail))
   refine XI ?_;refine Qh OB (λW z b hA C5 A=> ?_);obtain⟨E,rfl⟩:∃E,E=b:=⟨_,rfl⟩;have Lh:=hB.trans z;have M5:=A;have Ck:=z;clear z A;go_simp;refine Vk 2 OB (λW z=> ?_);simp only[UD,VZ];have O9:=Lh.trans z;have A:=z.get M5;replace Ck:=Ck.trans z;have r0:=Z0 A 0;have r1:=Z0 A 1;have r2:=Z0 A 2;have r3:=Z0 A 3;have r4:=Z0 A 4;have y0:=Z8 A 0;have y1:=Z8 A 1;have y2:=Z8 A 2;have y3:=Z8 A 3;have y4:=Z8 A 4;replace k0:=O9.get k0.out;replace k1:=O9.get k1.out;simp only[YC,YA,YB]at r0 r1 r2 r3 r4;have m0:¬w.heap.size=E:=by have:wr.heap.size<=E:=hA.1;omega
   have m1:¬w.heap.size+1=E:=by have:wr.heap.size<=E:=hA.1;omega
   clear a2 a3 a1 a4 a5 gc q0 q1 q2 q3 q4 c0 E1 p0 p1 p2 p3 p4 z0 z1 z2 z3 z4;go_wp2;refine Vm ?_;have Ad:=Y2 (J U X) (J U T) (J U Y) (J U m') (Z u M p) O9 (show wr.heap.size<=E from hA.1);have O:=Yz (J U X) (J U T) (J U Y) (J U m') (Z u M p) A;replace k0:=(Pw (J U X) (J U T) (J U Y) (J U m') (Z u M p) m0).trans k0;replace k1:=(Pw (J U X) (J U T) (J U Y) (J U m') (Z u M p) m1).trans k1
   replace hq:Hid (∀j,o=NA j->X=j.a/\T=j.b/\Y=j.c/\m'=j.m/\Xy w1.heap.size (U8 W E (J U X) (J U T) (J U Y) (J U m') (Z u M p)) (Z u M p) j.L):=λx hx=>by
    obtain⟨e1,e2,e3,e4,e5⟩:=hq x hx;exact⟨e1,e2,e3,e4,df _ _ _ _ _ (ZT e5 Ck) A OC⟩
   unfold U8 at Ad O k0 k1 hq;generalize ((((W.setCell E (J U X)).setCell ⟨E,1,NB⟩ (J U T)).setCell ⟨E,2,NB⟩ (J U Y)).setCell ⟨E,3,NB⟩ (J U m')).setCell ⟨E,4,NB⟩ (Z u M p)=W3 at Ad O k0 k1 hq⊢;have p0:=Z0 k0 0;have p1:=Z0 k0 1;have p2:=Z0 k0 2;have p3:=Z0 k0 3;have p4:=Z0 k0 4;have z0:=Z8 k0 0;have z1:=Z8 k0 1;have z2:=Z8 k0 2;have z3:=Z8 k0 3;have z4:=Z8 k0 4;have u0:=Z0 k1 0;have u1:=Z0 k1 1;have u2:=Z0 k1 2;have u3:=Z0 k1 3;have u4:=Z0 k1 4;have x0:=Z8 k1 0;have x1:=Z8 k1 1;have x2:=Z8 k1 2;have x3:=Z8 k1 3;have x4:=Z8 k1 4;clear r0 r1 r2 r3 r4;have r0:=Z0 O 0;have r1:=Z0 O 1;have r2:=Z0 O 2;have r3:=Z0 O 3;have r4:=Z0 O 4;simp only[YC,YA,YB]at r0 r1 r2 r3 r4 p0 p1 p2 p3 p4 u0 u1 u2 u3 u4;replace k0:Hid _:=k0;replace k1:Hid _:=k1;clear A M5 Lh z hB O Ck y0 y1 y2 y3 y4 Fd hA O9;clear g1 g2 g3 g4 Bf K C5 On;cases o with
   |none=>
    obtain rfl:ND=B:=Aq;have C:Hid (R=(st0,(i:Int)+1,3)):=by
     show _=_;rw[<-Ez.out,gP hl.out Aj.out ho.out];push_cast;rfl
    simp only[Exit.then];refine Jr _ _ ?_;clear Jr;go_wp2;rw[C.out];exact OK OB (k:=w.heap.size) (r:=(st0,(i:Int)+1,3)) rfl rfl rfl rfl (Y2 _ _ _ _ _ (hE.trans Ad) (XA _)) (Yz _ _ _ _ _ k0.out) (λi x h=>by simp[st0]at h)
   |some a0=>
    obtain rfl:NC=B:=Aq;simp only[Exit.then];refine Jr _ _ ?_;clear Jr;go_wp2;obtain⟨rfl,rfl,rfl,rfl,Df⟩:=hq.out a0 rfl;have Wn:=AW ho.out (Ff.out l (YQ hl.out)) Jh.out;have O7:=O7.out;refine⟨⟨i+1,a0,Z u M p,by push_cast;rfl,OA,Y2 _ _ _ _ _ (hE.trans Ad) OA,(Pw _ _ _ _ _ OA).trans k0.out,Yz _ _ _ _ _ k1.out,N1 _ _ _ _ _ Df O7,?_,AC ((show CT wr g 0 L from V.out).ext Ad) (Pw _ _ _ _ _ OA),?_,ny hl.out Aj.out ho.out,Wn.1,OA⟩,by simp[intOf];omega⟩
    .have:=Ad.size;simp;omega
    .have:=Ad.size;simp;omega
end Go.Proofs.Tryp
