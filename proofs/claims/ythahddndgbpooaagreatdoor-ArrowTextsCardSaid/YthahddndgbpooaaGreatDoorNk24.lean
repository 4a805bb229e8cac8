import Derived.Test.YthahddndgbpooaaGreatDoorNk23
set_option linter.all false
set_option maxRecDepth 100000
set_option maxHeartbeats 4000000
open Go
open Go.IntKind renaming i64->I
open Go.Value renaming slice->J,int->Z,pointer->NI,agg->NJ
open Go.Obj renaming cells->U
open Option renaming some->NA,none->NB
open Go renaming execOp->NU,World->NL,Calls->NW,Value->NM,TypeId->NT,Addr->NP
variable {ops:Array Oper}{first:Bool}{R:Exit->Act->NL->Prop}{fn:Func}{b r0 r1 r2 r3:Int}{l s:List UInt8}{B g i n t:Nat}{p:Nat->Nat}{P:Program}{c:Tmp}{ty:NT}{a0 a1 a2 a3 a4 u v:NM}{w:NL}
namespace Go.Proofs.Tryp
open Go Go.Nk Go.RowKit Go.Shelf Go.Proofs Go.Proofs.Tryq
attribute [local instance] k3
def kg{d a:Sc}(h:Wd first d s=NA a):a.L.length<=d.L.length+1:=by
 unfold Wd at h;cases ho:WN s with
 |none=>rw[ho]at h;cases h
 |some l=>
  rw[ho]at h;cases l with
  |rule=>cases h
  |shaft=>cases h
  |sight=>
   cases first
   .cases h
   .cases h;exact QW _
  |shot=>
   cases first
   .cases h;simp
   .cases h
def eM{L:List (List UInt8)}{d a:Sc}(e:L[i]? =NA l)(h:runC 0 sc0 L=runC i d (L.drop i))(f:Wd (decide (i=0)) d l=NA a):runC 0 sc0 L=runC (i+1) a (L.drop (i+1)):=by
 obtain⟨hi,rfl⟩:=YI.1 e;rw[h,VP hi,runC,f]
def eU{L:List (List UInt8)}{a:Sc}(d:L[i]? =NA l)(h:runC 0 sc0 L=runC i a (L.drop i))(e:Wd (decide (i=0)) a l=NB):runC 0 sc0 L= .inr (i+1):=by
 obtain⟨hi,rfl⟩:=YI.1 d;rw[h,VP hi,runC,e]
def iX(t:List UInt8)(w:NL)(ht:t.length<=2000):NW Tryp.prog 15 #[str t] w λe w'=>LO (Vf t) e w'/\Ext w w':=by
 have Fd:=λw=>BJ t w OA
 have Ff:Hid (∀y∈Y1 t,y.length<=2000):=λy hy=>XC (HJ hy) ht
 have Ox:=LD t;obtain⟨R,hR⟩:∃R,Hid (Vf t=R):=⟨_,rfl⟩;rw[hR.out];have Ez:=hR.out;rw[Vf]at Ez;clear hR;generalize Y1 t=L at Fd Ff Ox Ez;replace Ez:Hid _:=Ez;have Af:Ext w ((w.alloc (U OG 31)).alloc (U OG 31)):=((Ext.rfl' w).alloc _).alloc _;have g1:((w.alloc (U OG 31)).alloc (U OG 31)).heap[w.heap.size]? =NA (U OG 31):=by
  simp only[Z3,Z2];rw[XB OA,YZ trivial]
 have g2:((w.alloc (U OG 31)).alloc (U OG 31)).heap[w.heap.size+1]? =NA (U OG 31):=by
  simp only[Z3,Z2];rw[YZ trivial]
 go_enter fq Tryz.func15,Tryz.ntmps15;go_wp2_with fail;generalize (w.alloc (U OG 31)).alloc (U OG 31)=w1 at*
 go_wp2_with (first|(go_at_call 48;refine(Fd _).mono ?_;rintro e w2 ⟨g,cp,rfl,Bf,A2,Cu,hg⟩))
 have g3:=A2.get g1;have g4:=A2.get g2;have On:=Z5 g2;have Js:=Af.trans A2;have O7:Hid (w.heap.size+1<w1.heap.size):=On;replace Bf:Hid _:=Bf
 go_loopw [7,8,9] (λv7 _ _ wr=>∃(i:Nat)(d:Sc)(v:NM),v7= Z I i/\i<=L.length/\Ext w wr/\wr.heap[w.heap.size]? =NA (U OG 31)/\
  wr.heap[w.heap.size+1]? =NA (U #[d.a,d.b,d.c,d.m,v] 31)/\WC w1.heap.size wr v d.L/\w1.heap.size<=wr.heap.size/\CT wr g 0 L/\g<wr.heap.size/\Hid (runC 0 sc0 L=runC i d (L.drop i))/\d.L.length<=i) (λv7 _ _ _=>L.length - (intOf v7).toNat)
 case atStart=>exact⟨0,sc0,J NB 0 0,rfl,XL _,Js,g3,g4,VJ _ _ _ _,A2.size,Bf.out,hg,rfl,XA _⟩
 case round=>
  obtain⟨i,d,v,rfl,hi,hE,k0,k1,Y,hz,D7,Ew,Aj,J3⟩:=hrel;obtain⟨V,vc,rfl,We⟩:=FD Y;have q0:=Z0 k1 0;have q1:=Z0 k1 1;have q2:=Z0 k1 2;have q3:=Z0 k1 3;have q4:=Z0 k1 4;have p0:=Z0 k0 0;have p1:=Z0 k0 1;have p2:=Z0 k0 2;have p3:=Z0 k0 3;have p4:=Z0 k0 4;have z0:=Z8 k0 0;have z1:=Z8 k0 1;have z2:=Z8 k0 2;have z3:=Z8 k0 3;have z4:=Z8 k0 4;simp only[YC,YA,YB]at q0 q1 q2 q3 q4 p0 p1 p2 p3 p4;by_cases Ao:i=L.length
  .have Dz:=Aj.out;rw[Ao,UW,runC]at Dz;have H:=Ez.out;rw[Dz]at H;simp only at H;clear Dz Aj Ez;obtain⟨b2,b1,he,H8⟩:=EV Y;cases he;replace Y:Hid _:=Y;replace D7:Hid _:=D7;by_cases Fy:L=[]
   .rw[YZ Fy]at H;replace H:Hid _:=H;have Mv:L.length=0:=(by rw[Fy];rfl);rw[Mv]at Ao⊢;subst Ao;clear Fy Ff D7 Fd;go_wp2;rw[<-H.out];exact Ou OB (k:=w.heap.size) (r:=(sc0,0,3)) rfl rfl rfl rfl (Y2 _ _ _ _ _ hE (XA _)) (Yz _ _ _ _ _ k0) (λi x h=>by simp[sc0]at h)
   .have Mv:¬(L.length:Int)=0:=λh=>Fy (SL.1 OA)
    rw[XB Fy]at H;obtain⟨F,hF⟩:∃F,ZC d.a d.b d.c d.m d.L=F:=⟨_,rfl⟩;have O8:d.L.length<=1000000:=OA;have Bb:=λW hS=>DY d.a d.b d.c d.m V d.L.length vc d.L W rfl hS
    rw[hF]at H Bb;subst Ao;clear Fy Ff D7 Fd hF O8;by_cases h0:F=0
    case' pos=>
     subst h0;rw[YZ rfl]at H
    case' neg=>rw[XB h0]at H
    all_goals
     replace H:Hid _:=H
     go_wp2_with (go_at_call 18;refine(Bb _ H8).r λw4 O=> ?_
                  have As:=hE.trans O;have M:=O.get k0;have j1:=O.get k1;have In:=H8.ext O;clear q0 q1 q2 q3 q4 p0 p1 p2 p3 p4 z0 z1 z2 z3 z4;have q0:=Z0 j1 0;have q1:=Z0 j1 1;have q2:=Z0 j1 2;have q3:=Z0 j1 3;have q4:=Z0 j1 4;have p0:=Z0 M 0;have p1:=Z0 M 1;have p2:=Z0 M 2;have p3:=Z0 M 3;have p4:=Z0 M 4;have z0:=Z8 M 0;have z1:=Z8 M 1;have z2:=Z8 M 2;have z3:=Z8 M 3;have z4:=Z8 M 4;simp only[YC,YA,YB]at q0 q1 q2 q3 q4 p0 p1 p2 p3 p4)
     rw[<-H.out]
    .exact Ou OB (k:=w.heap.size) (r:=(sc0,0,F)) rfl rfl rfl rfl (Y2 _ _ _ _ _ As (XA _)) (Yz _ _ _ _ _ M) (λi x h=>by simp[sc0]at h)
    .obtain⟨ao3,vc3,he,Sr⟩:=EV (L:=d.L) (N1 (Z I d.a) (Z I d.b) (Z I d.c) (Z I d.m) (J V d.L.length vc) (ZT Y.out O) (k:=w.heap.size) (by have:=O7.out;omega));cases he;exact Ou OB (k:=w.heap.size) (r:=(d,0,0)) rfl rfl rfl rfl (Y2 _ _ _ _ _ As (XA _)) (Yz _ _ _ _ _ M) Sr
  .obtain⟨l,hl⟩:∃l,L[i]? =NA l:=⟨_,YH OA⟩;have c0:wr.cell? ⟨g,i,NB⟩=NA (str l):=by have:=D7 i l hl;rwa [VD]at this
   obtain⟨o,ho⟩:∃o,Hid (Wd ((i:Int)==0) d l=o):=⟨_,rfl⟩;have Al:=λW (C:Ext wr W)=>qc d (J V d.L.length vc) l ((i:Int)==0) w1.heap.size W (XC (Ff.out l (YQ hl)) OA) (XC hz C.size) OA (ZT Y C)
   rw[ho.out]at Al;have P0:((i:Int)==0)=decide (i=0):=by
    by_cases h:i=0
    .subst h;rfl
    .rw[XV h,XQ];omega
   rw[P0]at ho;clear P0;replace hl:Hid _:=hl;have A5:(i:Int)<L.length:=OA
   have G6:(i:Int)<=2001:=OA
   have i0:=Z5 k0;have i1:=Z5 k1;replace k0:Hid _:=k0;replace k1:Hid _:=k1;replace Y:Hid _:=Y;replace D7:Hid _:=D7;go_wp2;rename_i K9 Jr;have a7:=ZQ q0;have a8:=ZQ q1;have a6:=ZQ q2;have a9:=ZQ q3;have b0:=ZQ q4;have gc:=ZQ c0;obtain⟨B,Aq⟩:∃B,o.isSome=B:=⟨_,rfl⟩;have E1:∀W,Ext wr W->NW Tryp.prog 51 #[NJ #[d.a,d.b,d.c,d.m,J V d.L.length vc],str l,.bool ((i:Int)==0)] W λe w'=>(∃(a b c m:Int)(V:Option NP)(n cp:Nat),e= .returned (.tuple #[NJ #[a,b,c,m,J V n cp],.bool B])/\∀d,o=NA d->a=d.a/\b=d.b/\c=d.c/\m=d.m/\WC w1.heap.size w' (J V n cp) d.L)/\Ext W w':=λW C=>by rw[<-Aq];exact Al W C
   clear Al;refine Rt 12 11 8 [0,1,2,3,4,5,6,7,8,9] (U OG 31) OB rfl OB rfl rfl (λa W=>by simp[go_sem,NU,Act.eval]) ?_;refine WT [0,1,2,3,4,5,6] OB rfl rfl OB ?_;simp only[ZR,YB,YA,YK,YJ]
   repeat (go_big_quiet_step (fail))
   refine XI ?_;refine WV 7 rfl OB rfl (λW C=>Yd (f:=51) (args:= #[NJ #[d.a,d.b,d.c,d.m,J V d.L.length vc],str l,.bool ((i:Int)==0)]) OE ?_);refine(E1 W C).mono ?_;rintro e W2 ⟨⟨a',b',c',m',A,T,z,rfl,hq⟩,O⟩;refine⟨.tuple #[NJ #[a',b',c',m',J A T z],.bool B],rfl,O,?_⟩;have hB:=C.trans O;clear C;go_simp;refine WT [8,9,10] OB rfl rfl OB ?_;simp only[ZR,YB,YA,YK,YJ]
   repeat (go_big_quiet_step (fail))
   refine XI ?_;refine Qh OB (λW C b hA C5 E=> ?_);obtain⟨K,rfl⟩:∃K,K=b:=⟨_,rfl⟩;have Lh:=hB.trans C;have M5:=E;have Ck:=C;clear C E;go_simp;refine Vk 2 OB (λW C=> ?_);simp only[UD,VZ];have O9:=Lh.trans C;have E:=C.get M5;replace Ck:=Ck.trans C;have r0:=Z0 E 0;have r1:=Z0 E 1;have r2:=Z0 E 2;have r3:=Z0 E 3;have r4:=Z0 E 4;have y0:=Z8 E 0;have y1:=Z8 E 1;have y2:=Z8 E 2;have y3:=Z8 E 3;have y4:=Z8 E 4;replace k0:=O9.get k0.out;replace k1:=O9.get k1.out;simp only[YC,YA,YB]at r0 r1 r2 r3 r4;have m0:¬w.heap.size=K:=by have:wr.heap.size<=K:=hA.1;omega
   have m1:¬w.heap.size+1=K:=by have:wr.heap.size<=K:=hA.1;omega
   clear a7 a8 a6 a9 b0 gc q0 q1 q2 q3 q4 c0 E1 p0 p1 p2 p3 p4 z0 z1 z2 z3 z4;go_wp2;refine Vm ?_;have Ad:=Y2 (Z I a') (Z I b') (Z I c') (Z I m') (J A T z) O9 (show wr.heap.size<=K from hA.1);have X:=Yz (Z I a') (Z I b') (Z I c') (Z I m') (J A T z) E;replace k0:=(Pw (Z I a') (Z I b') (Z I c') (Z I m') (J A T z) m0).trans k0;replace k1:=(Pw (Z I a') (Z I b') (Z I c') (Z I m') (J A T z) m1).trans k1
   replace hq:Hid (∀j,o=NA j->a'=j.a/\b'=j.b/\c'=j.c/\m'=j.m/\WC w1.heap.size (U8 W K (Z I a') (Z I b') (Z I c') (Z I m') (J A T z)) (J A T z) j.L):=λx hx=>by
    obtain⟨e1,e2,e3,e4,e5⟩:=hq x hx;exact⟨e1,e2,e3,e4,df _ _ _ _ _ (ZT e5 Ck) E OC⟩
   unfold U8 at Ad X k0 k1 hq;generalize ((((W.setCell K (Z I a')).setCell ⟨K,1,NB⟩ (Z I b')).setCell ⟨K,2,NB⟩ (Z I c')).setCell ⟨K,3,NB⟩ (Z I m')).setCell ⟨K,4,NB⟩ (J A T z)=W3 at Ad X k0 k1 hq⊢;have p0:=Z0 k0 0;have p1:=Z0 k0 1;have p2:=Z0 k0 2;have p3:=Z0 k0 3;have p4:=Z0 k0 4;have z0:=Z8 k0 0;have z1:=Z8 k0 1;have z2:=Z8 k0 2;have z3:=Z8 k0 3;have z4:=Z8 k0 4;have u0:=Z0 k1 0;have u1:=Z0 k1 1;have u2:=Z0 k1 2;have u3:=Z0 k1 3;have u4:=Z0 k1 4;have x0:=Z8 k1 0;have x1:=Z8 k1 1;have x2:=Z8 k1 2;have x3:=Z8 k1 3;have x4:=Z8 k1 4;clear r0 r1 r2 r3 r4;have r0:=Z0 X 0;have r1:=Z0 X 1;have r2:=Z0 X 2;have r3:=Z0 X 3;have r4:=Z0 X 4;simp only[YC,YA,YB]at r0 r1 r2 r3 r4 p0 p1 p2 p3 p4 u0 u1 u2 u3 u4;replace k0:Hid _:=k0;replace k1:Hid _:=k1;clear E M5 Lh C hB X Ck y0 y1 y2 y3 y4 Fd hA O9;clear g1 g2 g3 g4 Bf O C5 On;cases o with
   |none=>
    obtain rfl:false=B:=Aq;have H:Hid (R=(sc0,(i:Int)+1,3)):=by
     show _=_;rw[<-Ez.out,eU hl.out Aj.out ho.out];push_cast;rfl
    simp only[Exit.then];refine Jr _ _ ?_;clear Jr;go_wp2;rw[H.out];exact Ou OB (k:=w.heap.size) (r:=(sc0,(i:Int)+1,3)) rfl rfl rfl rfl (Y2 _ _ _ _ _ (hE.trans Ad) (XA _)) (Yz _ _ _ _ _ k0.out) (λi x h=>by simp[sc0]at h)
   |some a5=>
    obtain rfl:true=B:=Aq;simp only[Exit.then];refine Jr _ _ ?_;clear Jr;go_wp2;obtain⟨rfl,rfl,rfl,rfl,Df⟩:=hq.out a5 rfl;have Wn:=kg ho.out;have O7:=O7.out;refine⟨⟨i+1,a5,J A T z,by push_cast;rfl,OA,Y2 _ _ _ _ _ (hE.trans Ad) OA,(Pw _ _ _ _ _ OA).trans k0.out,Yz _ _ _ _ _ k1.out,N1 _ _ _ _ _ Df O7,?_,AC ((show CT wr g 0 L from D7.out).ext Ad) (Pw _ _ _ _ _ OA),?_,eM hl.out Aj.out ho.out,OA⟩,by simp[intOf];omega⟩
    .have:=Ad.size;simp;omega
    .have:=Ad.size;simp;omega
end Go.Proofs.Tryp
section
namespace Go.Nk
open Go Go.Region Go.Proofs.Tryq
def EG{l:List Nat}(k:Nat){o:Oper}{a:Act}{w:NL}(hi:ops[k]? =NA o)(f:(decide (k<t)&&decide (l.length<ops.size)&&Region.ready .any ops (mark ops.size l)==[k])=true)
 (h:∀W,Ext w W->wpList P ops (PP (λ_ j e=>Ext W e/\LX P ops R t (k::l) j e)) [o] a W):LX P ops R t l a w:=by
 simp only[YG,XE,XU]at f;unfold LX at*;rw[show ops.size - l.length=(ops.size - (k::l).length)+1 by simp only[YP];omega];refine λW x=>⟨λy=>(by rw[y]at f;cases f.2),λi d=> ?_⟩
 rw[f.2]at d;obtain rfl:i=k:=by simpa using d
 refine⟨λ_=> ?_,λh=>by omega⟩;have m:=h W x;simp only[wpList]at m;refine OZ (P:=P) (ops:=ops) (noN (R:=λ_ j e=>Ext W e/\anyE P ops R t (ops.size - (i::l).length) ((mark ops.size l).setIfInBounds i true) j e)) (λ_ _ h=>h) ?_;unfold wpOp;simp only[hi];exact m
end Go.Nk
namespace Go.Proofs.Tryp
open Go Go.Nk Go.RowKit Go.Shelf Go.Proofs Go.Proofs.Tryq
attribute [local instance] k3
def MD(d:w.cell? ⟨g,0,NB⟩=NA u)(a:w.cell? ⟨g,1,NB⟩=NA v)(j:Nat)(x:NM)(h:[u,v][j]? =NA x):w.cell? ((⟨g,0,NB⟩:NP).add j)=NA x:=by
 rw[ZU]
 match j with
 |0=>cases h;exact d
 |1=>cases h;exact a
 |j+2=>simp at h
def dL{x:Rs}(d:okR x):([32].intercalate ([115,104,111,116]::ZZ x)).length<=10000:=by
 have:=Pt 1000 ([115,104,111,116]::ZZ x) (by
  intro z e;simp only[ZZ,XG,XO,UE]at e;rcases e with rfl|rfl|rfl|rfl|rfl
  .decide
  .exact XC (VV _ d.a.s.1 d.a.s.2) OA
  .exact XC (PQ _ _ d.m.s d.M.s) OA
  .exact XC (VV _ d.wi.s.1 d.wi.s.2) OA
  .exact XC (VV _ d.li.s.1 d.li.s.2) OA)
 simp only[ZZ,YP,XW]at this;exact XC this OA
def oU(r0 r1 r2 r3:Int)(H:Option NP)(n a5:Nat)(S:List Rs)(w:NL)(A1:S.length=n)(hS:RawS w H S)(hp:Pow w)(h0:ZC r0 r1 r2 r3 S=0):
 NW Tryp.prog 9 #[.agg (Zh r0 r1 r2 r3 H n a5)] w (OI (.tuple #[str (FJ r0 r1 r2 r3 S),Z I 0]) w):=by
 have Bb:=λw hS=>P8 r0 r1 r2 r3 H n a5 S w A1 hS
 rw[h0]at Bb;obtain⟨ha,hb,hc,hm,b0,hL⟩:=EE h0;have hn:n<=8:=OA
 simp only[Zh]at Bb⊢;have hE:Ext w (w.alloc (U #[r0,r1,r2,r3,J H n a5] 31)):=(Ext.rfl' w).alloc _;have hg:(w.alloc (U #[r0,r1,r2,r3,J H n a5] 31)).heap[w.heap.size]? =NA (U #[r0,r1,r2,r3,J H n a5] 31):=by rw[Z3,YZ rfl]
 have Bi:=hS.ext hE;replace hS:Hid (RawS w H S):=hS;replace A1:Hid (S.length=n):=A1;replace hL:Hid (∀x∈S,okR x):=hL;have Em:∀x∈[r0,r1,r2,r3],okS x:=by
  intro x hx;simp only[XG,XO,UE]at hx;rcases hx with rfl|rfl|rfl|rfl<;>exact okP.s (by assumption)
 replace Em:Hid (∀x∈[r0,r1,r2,r3],okS x):=Em;have Fi:([32].intercalate ([115,105,103,104,116]::[r0,r1,r2,r3].map Lib.itoa)).length<=10000:=by
  have:=Pt 100 ([115,105,103,104,116]::[r0,r1,r2,r3].map Lib.itoa) (by
   intro x hx;simp only[VG,VX,XG,XO,UE]at hx;rcases hx with rfl|rfl|rfl|rfl|rfl
   .decide
   all_goals exact XC (VV _ (okP.s (by assumption)).1 (okP.s (by assumption)).2) OA)
  simp only[VG,VX,YP,XW]at this;exact XC this OA
 replace Fi:Hid _:=Fi;clear ha hb hc hm h0 b0;go_enter fq Tryz.func9,Tryz.ntmps9
 go_wp2_with (first
  |(go_at_call 43;refine(Bb _ Bi).r λw2 A2=> ?_
    have Ad:=hE.trans A2;have Bl:=A2.get hg;have q0:=Z0 Bl 0;have q1:=Z0 Bl 1;have q2:=Z0 Bl 2;have q3:=Z0 Bl 3;have q4:=Z0 Bl 4;simp only[YC,YA,YB]at q0 q1 q2 q3 q4)
  |(go_at_call 38;refine(KQ w2.heap.size 0 4 4 [r0,r1,r2,r3] _ rfl OA (ID w2 [r0,r1,r2,r3] 3) OD Em.out ((hp.ext Ad).ext ((Ext.rfl' w2).alloc _))).mono ?_
    rintro e Y ⟨v,rfl,L,Ag⟩;obtain⟨g,cp,rfl,G5,Eo⟩:=XT L OD;have As:Ext w2 Y:=((Ext.rfl' w2).alloc _).trans Ag;have Am:=IN [115,105,103,104,116] g 4 cp ([r0,r1,r2,r3].map Lib.itoa) Y rfl OA (WA L) Eo OA (XC Fi.out OA);clear L)
  |(go_at_call 37;refine Am.r λ_ B0=> ?_
    have Cw:=(Ad.trans As).trans B0;have Bu:=(As.trans B0).get Bl;replace q4:=(As.trans B0).cellS q4))
 clear Em Bb Bi Am G5 Eo Ag;go_loopw [5,31] (λv5 a7 wr=>∃i:Nat,i<=n/\a7= Z I i/\v5=str (ZY [115,105,103,104,116] (ZX r0 r1 r2 r3)++((S.take i).map λs=>ZY [115,104,111,116] (ZZ s)).flatten)/\Ext w wr) (λ_ a7 _=>n - (intOf a7).toNat)
 case atStart=>exact⟨0,OA,rfl,by simp[ZY,ZX],Cw⟩
 case round=>
  obtain⟨i,hi,rfl,rfl,Bp⟩:=hrel;by_cases Ao:i=n
  .subst Ao;go_wp2;go_ret2;rw[XX (by have:=A1.out;omega)];exact⟨rfl,Bp⟩
  .have A5:(i:Int)<(n:Int):=OA
   obtain⟨x,hx⟩:∃x,S[i]? =NA x:=⟨_,YH (by have:=A1.out;omega)⟩;obtain⟨_,_,rfl,_,sx⟩:=(hS.out.ext Bp) i x hx;have x0:=sx.1;have x1:=sx.2;have x2:=sx.3;have x3:=sx.4;have x4:=sx.5;have ho:=hL.out x (YQ hx);clear sx;go_wp2;have o:Ext wr _:=(Ext.rfl' wr).alloc (U #[x.a,x.m,x.M,x.wi,x.li] 75);have D4:(wr.alloc (U #[x.a,x.m,x.M,x.wi,x.li] 75)).heap[wr.heap.size]? =NA (U #[x.a,x.m,x.M,x.wi,x.li] 75):=by rw[Z3,YZ rfl]
   have Jp:Pow wr:=hp.ext Bp;have J3:=dL ho;have Ba:¬9223372036854775807<(ZY [115,105,103,104,116] (ZX r0 r1 r2 r3)++((S.take i).map λs=>ZY [115,104,111,116] (ZZ s)).flatten).length+(ZY [115,104,111,116] (ZZ x)).length:=by
    have h1:=Fi.out
    have h3:=LF 10001 ((S.take i).map λs=>ZY [115,104,111,116] (ZZ s)) (by
     intro y hy;obtain⟨z,hz,rfl⟩:=VW.1 hy;have:=dL (hL.out z (QH hz));simp only[ZY,XH,YP,XW];omega)
    rw[TH,VN]at h3;have h4:min i S.length<=8:=OA;have h5:=SG 10001 h4;have h6:(ZY [115,105,103,104,116] (ZX r0 r1 r2 r3)).length<=10001:=(by simp only[ZY,ZX,XH,YP,XW];omega);have h7:(ZY [115,104,111,116] (ZZ x)).length<=10001:=(by simp only[ZY,XH,YP,XW];omega);rw[XH];omega
   have hH:Hid (S.take (i+1)=S.take i++[x]):=by show _=_;rw[VL,hx];rfl
   have Oz:=λW d=>Dy x.a ho.a.s W (Jp.ext d)
   have Vy:=λW d=>HH x.m x.M ho.m.s ho.M.s W (Jp.ext d)
   have Wo:∀y∈[x.wi,x.li],okS y:=by
    intro y hy;simp only[XG,XO,UE]at hy;rcases hy with rfl|rfl
    .exact ho.wi.s
    .exact ho.li.s
   have Em:Hid _:=Wo;have Am:∀g cp W,(∀(j:Nat)(y:NM),((ZZ x).map str)[j]? =NA y->W.cell? ⟨g,j,NB⟩=NA y)->g<W.heap.size->NW Tryp.prog 37 #[str [115,104,111,116],J (NA ⟨g,0,NB⟩) 4 cp] W (OI (str (ZY [115,104,111,116] (ZZ x))) W):=λg cp W h1 h2=>IN [115,104,111,116] g 4 cp (ZZ x) W rfl OA h1 h2 OA (XC J3 OA)
   obtain⟨a9,Eg⟩:∃a9,Hid (a9=ZY [115,105,103,104,116] (ZX r0 r1 r2 r3)++((S.take i).map λs=>ZY [115,104,111,116] (ZZ s)).flatten):=⟨_,rfl⟩;obtain⟨sx,Fe⟩:∃sx,Hid (sx=ZY [115,104,111,116] (ZZ x)):=⟨_,rfl⟩;rw[<-Eg.out]at Ba⊢;rw[<-Fe.out]at Ba Am;simp only[ZZ,VG,VX]at Am;generalize World.alloc wr (U #[x.a,x.m,x.M,x.wi,x.li] 75)=w7 at o D4⊢;obtain⟨B7,Lh⟩:∃B7,B7=wr.heap.size:=⟨_,rfl⟩;rw[<-Lh]at D4⊢;clear Lh;have y0:=Z0 D4 0;have y1:=Z0 D4 1;have y2:=Z0 D4 2;have y3:=Z0 D4 3;have y4:=Z0 D4 4;simp only[YC,YA,YB]at y0 y1 y2 y3 y4;have b5:=ZQ y0;have b3:=ZQ y1;have b4:=ZQ y2;have b6:=ZQ y3;have b2:=ZQ y4;clear hx x0 x1 x2 x3 x4 q0 q1 q2 q3 q4 Bu Bl hg hE A2 Ad As B0 Cw J3 Wo ho;generalize a8:Lib.itoa x.a=A at Oz Am;generalize Yg:ZW x.m x.M=tm at Vy Am;obtain⟨tc,T2⟩:∃tc,tc=Lib.itoa x.wi:=⟨_,rfl⟩;obtain⟨td,I7⟩:∃td,td=Lib.itoa x.li:=⟨_,rfl⟩;rw[<-T2,<-I7]at Am;replace a8:Hid _:=a8;replace Yg:Hid _:=Yg;replace T2:Hid _:=T2;replace I7:Hid _:=I7;refine Z9 18 OB ?_;refine ZS [0,1,2,4,5,8,9,10,11] OB OB ?_
   simp only[ZR,YB,YA,YK,YJ]
   repeat (go_big_quiet_step (fail))
   refine XI ?_;refine Z4 3 (f:=44) (args:= #[x.a]) (v:=str A) OB rfl OB rfl (λW=>by simp[go_sem,NU,Act.eval]) (λW d=>Oz W (o.trans d)) ?_;go_simp;refine Z4 6 (f:=39) (args:= #[NJ #[x.m,x.M]]) (v:=str tm) OB rfl OB rfl (λW=>by simp[go_sem,NU,Act.eval]) (λW d=>Vy W (o.trans d)) ?_;go_simp;refine bg 7 12 rfl rfl OB rfl rfl (λW d=> ?_) (λW d=> ?_)
   .refine Ye ⟨J (NA W.heap.size) 2 2,W.alloc (U #[str A,str tm] 9),OE,(Ext.rfl' W).alloc _,?_⟩;have F:=OU W wr.heap.size 9 #[str A,str tm] 2 _ rfl (o.trans d).size rfl OC;replace o:=(o.trans d).alloc (U #[str A,str tm] 9);generalize W.alloc (U #[str A,str tm] 9)=W5 at F o⊢;generalize W.heap.size=a6 at F⊢;clear d;go_simp;refine Yu 12 rfl OB rfl (λW d=>Ye ⟨J (NA W.heap.size) 2 2,W.alloc (U #[x.wi,x.li] 3),OE,(Ext.rfl' W).alloc _,?_⟩);have X:=ID W [x.wi,x.li] 3;have C:W.heap.size<(W.alloc (U #[x.wi,x.li] 3)).heap.size:=OD;replace F:=ZT (ZT F d) ((Ext.rfl' W).alloc (U #[x.wi,x.li] 3));replace o:=(o.trans d).alloc (U #[x.wi,x.li] 3);simp only[VG,VX]at X;generalize W.alloc (U #[x.wi,x.li] 3)=W6 at X C o F⊢;generalize W.heap.size=O at X C⊢;clear d;go_simp;refine Yu 13 rfl OB rfl (λW d=>Yd (f:=38) (args:= #[J (NA O) 2 2]) OE ?_)
    refine(KQ O 0 2 2 [x.wi,x.li] W rfl OA (λj y hj=>d.cellS (X j y hj)) (d.lt C) Em.out (Jp.ext (o.trans d))).mono ?_;rintro e W2 ⟨v,rfl,L,E⟩;obtain⟨g,cp,rfl,Hc,Bl⟩:=XT L OD;have k0:=WA L 0 (str tc) (by rw[T2.out];rfl);have k1:=WA L 1 (str td) (by rw[I7.out];rfl);refine⟨J (NA g) 2 cp,rfl,E,?_⟩;replace F:=ZT (ZT F d) E;replace o:=(o.trans d).trans E;clear d E L X C;go_simp;refine EG 14 rfl OB (λW d=> ?_);have e0:=d.cellS (WA (show Xd _ _ _ [A,tm]from F) 0 (str A) rfl);have e1:=d.cellS (WA (show Xd _ _ _ [A,tm]from F) 1 (str tm) rfl);refine SN W rfl _ _ 85 rfl 9 Tryz.t9 (.string ⟨#[]⟩) 1 16 u85 i9 t9z t9s t9b rfl OA (NA a6) 2 2 [str A,str tm] rfl (λh=>by cases h) rfl (λb hb=>by cases hb;exact MD e0 e1) g 2 cp [str tc,str td] rfl rfl (MD (d.cellS k0) (d.cellS k1)) (by intro u hu;simp at hu;rcases hu with rfl|rfl<;>rfl) OA (by simp[maxLen]) OA ?_;intro v' Y Ae K;obtain⟨g9,T,rfl,M4,M3⟩:=XT Ae OA;have M6:Ext W Y:=⟨K.size,λk hk=>K.block k hk OD,K.tape,K.os,K.output⟩
    have Fu:=λV (hV:Ext Y V)=>Am g9 T V (λj y hj=>hV.cellS (WA (show Xd W.heap.size Y _ [A,tm,tc,td]from Ae) j y hj)) (hV.lt M3)
    refine⟨M6,?_⟩;replace o:=(o.trans d).trans M6;clear Ae K M6 e0 e1 d F k0 k1 M4 M3;go_simp;refine Yu 15 rfl OB rfl (λW d=>Yd (f:=37) (args:= #[str [115,104,111,116],J (NA g9) 4 T]) OE ?_);refine(Fu W d).r λW9 E=> ?_;refine⟨str sx,rfl,E,?_⟩;replace o:=(o.trans d).trans E;clear d E;go_simp;refine ZS [16,17] OB OB ?_;simp only[ZR,YB,YA,YK,YJ]
    repeat (go_big_quiet_step (fail))
    refine XI ?_;refine Yt OB (λW d=> ?_);go_wp2;go_roundw
    case rel=>exact⟨i+1,OA,by push_cast;rfl,by rw[VH,Eg.out,Fe.out,hH.out];simp,Bp.trans (o.trans d)⟩
    case measure=>simp[intOf];omega
   .refine Ye ⟨J (NA W.heap.size) 2 2,W.alloc (U #[x.wi,x.li] 3),OE,(Ext.rfl' W).alloc _,?_⟩;have X:=ID W [x.wi,x.li] 3;have C:W.heap.size<(W.alloc (U #[x.wi,x.li] 3)).heap.size:=OD;replace o:=(o.trans d).alloc (U #[x.wi,x.li] 3);simp only[VG,VX]at X;generalize W.alloc (U #[x.wi,x.li] 3)=W6 at X C o⊢;generalize W.heap.size=O at X C⊢;clear d;go_simp;refine bg 7 13 rfl rfl OB rfl rfl (λW d=> ?_) (λW d=> ?_)
    .refine Ye ⟨J (NA W.heap.size) 2 2,W.alloc (U #[str A,str tm] 9),OE,(Ext.rfl' W).alloc _,?_⟩;have F:=OU W wr.heap.size 9 #[str A,str tm] 2 _ rfl (o.trans d).size rfl OC;replace X:∀(j:Nat)(y:Int),[x.wi,x.li][j]? =NA y->(W.alloc (U #[str A,str tm] 9)).cell? ⟨O,0+j,NB⟩=NA (Z I y):=λj y hj=>(d.alloc _).cellS (X j y hj)
     replace C:=(d.alloc (U #[str A,str tm] 9)).lt C;replace o:=(o.trans d).alloc (U #[str A,str tm] 9);generalize W.alloc (U #[str A,str tm] 9)=W5 at F o X C⊢;generalize W.heap.size=a6 at F⊢;clear d;go_simp;refine Yu 13 rfl OB rfl (λW d=>Yd (f:=38) (args:= #[J (NA O) 2 2]) OE ?_);refine(KQ O 0 2 2 [x.wi,x.li] W rfl OA (λj y hj=>d.cellS (X j y hj)) (d.lt C) Em.out (Jp.ext (o.trans d))).mono ?_;rintro e W2 ⟨v,rfl,L,E⟩;obtain⟨g,cp,rfl,Hc,Bl⟩:=XT L OD;have k0:=WA L 0 (str tc) (by rw[T2.out];rfl);have k1:=WA L 1 (str td) (by rw[I7.out];rfl);refine⟨J (NA g) 2 cp,rfl,E,?_⟩;replace F:=ZT (ZT F d) E;replace o:=(o.trans d).trans E;clear d E L X C;go_simp;refine EG 14 rfl OB (λW d=> ?_);have e0:=d.cellS (WA (show Xd _ _ _ [A,tm]from F) 0 (str A) rfl);have e1:=d.cellS (WA (show Xd _ _ _ [A,tm]from F) 1 (str tm) rfl);refine SN W rfl _ _ 85 rfl 9 Tryz.t9 (.string ⟨#[]⟩) 1 16 u85 i9 t9z t9s t9b rfl OA (NA a6) 2 2 [str A,str tm] rfl (λh=>by cases h) rfl (λb hb=>by cases hb;exact MD e0 e1) g 2 cp [str tc,str td] rfl rfl (MD (d.cellS k0) (d.cellS k1)) (by intro u hu;simp at hu;rcases hu with rfl|rfl<;>rfl) OA (by simp[maxLen]) OA ?_
     intro v' Y Ae K;obtain⟨g9,T,rfl,M4,M3⟩:=XT Ae OA;have M6:Ext W Y:=⟨K.size,λk hk=>K.block k hk OD,K.tape,K.os,K.output⟩;have Fu:=λV (hV:Ext Y V)=>Am g9 T V (λj y hj=>hV.cellS (WA (show Xd W.heap.size Y _ [A,tm,tc,td]from Ae) j y hj)) (hV.lt M3)
     refine⟨M6,?_⟩;replace o:=(o.trans d).trans M6;clear Ae K M6 e0 e1 d F k0 k1 M4 M3;go_simp;refine Yu 15 rfl OB rfl (λW d=>Yd (f:=37) (args:= #[str [115,104,111,116],J (NA g9) 4 T]) OE ?_);refine(Fu W d).r λW9 E=> ?_;refine⟨str sx,rfl,E,?_⟩;replace o:=(o.trans d).trans E;clear d E;go_simp;refine ZS [16,17] OB OB ?_;simp only[ZR,YB,YA,YK,YJ]
     repeat (go_big_quiet_step (fail))
     refine XI ?_;refine Yt OB (λW d=> ?_);go_wp2;go_roundw
     case rel=>exact⟨i+1,OA,by push_cast;rfl,by rw[VH,Eg.out,Fe.out,hH.out];simp,Bp.trans (o.trans d)⟩
     case measure=>simp[intOf];omega
    .refine Yd (f:=38) (args:= #[J (NA O) 2 2]) OE ?_;refine(KQ O 0 2 2 [x.wi,x.li] W rfl OA (λj y hj=>d.cellS (X j y hj)) (d.lt C) Em.out (Jp.ext (o.trans d))).mono ?_;rintro e W2 ⟨v,rfl,L,E⟩;obtain⟨g,cp,rfl,Hc,Bl⟩:=XT L OD;have k0:=WA L 0 (str tc) (by rw[T2.out];rfl);have k1:=WA L 1 (str td) (by rw[I7.out];rfl);refine⟨J (NA g) 2 cp,rfl,E,?_⟩;replace o:=(o.trans d).trans E;clear d E L X C;go_simp;refine Yu 7 rfl OB rfl (λW d=>Ye ⟨J (NA W.heap.size) 2 2,W.alloc (U #[str A,str tm] 9),OE,(Ext.rfl' W).alloc _,?_⟩);have F:=OU W wr.heap.size 9 #[str A,str tm] 2 _ rfl (o.trans d).size rfl OC;replace k0:=(d.alloc (U #[str A,str tm] 9)).cellS k0;replace k1:=(d.alloc (U #[str A,str tm] 9)).cellS k1;replace o:=(o.trans d).alloc (U #[str A,str tm] 9);generalize W.alloc (U #[str A,str tm] 9)=W5 at F o k0 k1⊢;generalize W.heap.size=a6 at F⊢;clear d;go_simp;refine EG 14 rfl OB (λW d=> ?_);have e0:=d.cellS (WA (show Xd _ _ _ [A,tm]from F) 0 (str A) rfl);have e1:=d.cellS (WA (show Xd _ _ _ [A,tm]from F) 1 (str tm) rfl)
     refine SN W rfl _ _ 85 rfl 9 Tryz.t9 (.string ⟨#[]⟩) 1 16 u85 i9 t9z t9s t9b rfl OA (NA a6) 2 2 [str A,str tm] rfl (λh=>by cases h) rfl (λb hb=>by cases hb;exact MD e0 e1) g 2 cp [str tc,str td] rfl rfl (MD (d.cellS k0) (d.cellS k1)) (by intro u hu;simp at hu;rcases hu with rfl|rfl<;>rfl) OA (by simp[maxLen]) OA ?_;intro v' Y Ae K;obtain⟨g9,T,rfl,M4,M3⟩:=XT Ae OA;have M6:Ext W Y:=⟨K.size,λk hk=>K.block k hk OD,K.tape,K.os,K.output⟩;have Fu:=λV (hV:Ext Y V)=>Am g9 T V (λj y hj=>hV.cellS (WA (show Xd W.heap.size Y _ [A,tm,tc,td]from Ae) j y hj)) (hV.lt M3)
     refine⟨M6,?_⟩;replace o:=(o.trans d).trans M6;clear Ae K M6 e0 e1 d F k0 k1 M4 M3;go_simp;refine Yu 15 rfl OB rfl (λW d=>Yd (f:=37) (args:= #[str [115,104,111,116],J (NA g9) 4 T]) OE ?_);refine(Fu W d).r λW9 E=> ?_;refine⟨str sx,rfl,E,?_⟩;replace o:=(o.trans d).trans E;clear d E;go_simp;refine ZS [16,17] OB OB ?_;simp only[ZR,YB,YA,YK,YJ]
     repeat (go_big_quiet_step (fail))
     refine XI ?_;refine Yt OB (λW d=> ?_);go_wp2;go_roundw
     case rel=>exact⟨i+1,OA,by push_cast;rfl,by rw[VH,Eg.out,Fe.out,hH.out];simp,Bp.trans (o.trans d)⟩
     case measure=>simp[intOf];omega
end Go.Proofs.Tryp
end
namespace Go.Proofs.Tryq
open Go Go.Nk Go.RowKit
def cy{a p:Tmp}(h:fn.results= #[.tmp a,.cell p ty,.tmp c])(d:Array NM)(P:Program)(w:NL):
 (results fn d).run P w=((asAddr (d.getD p undef)).run P w).andThen λx e=>((loadVar ty x).run P e).andThen λv e=> .ok (.tuple #[d.getD a undef,v,d.getD c undef]) e:=by
 simp only[results,h];simp[UH,Result.andThen]
def ZG(C:Nat->Int×Int)(a:Nat):Nat->Nat×Int×Int
 |0=>(a,C a)
 |k+1=>if wrap64 ((ZG C a k).2.2 - (ZG C a k).2.1)<wrap64 ((C (a+1+k)).2 - (C (a+1+k)).1)then(a+1+k,C (a+1+k))else ZG C a k
def Q8(r0 r1 r2 r3:Int)(S:List Rs)(a b:Int):Int:=firstV (Zy r0 r1 r2 r3 S [Zv a,Zv b,Uy a b])
def Tq(r0 r1 r2 r3:Int)(S:List Rs)(a b:Int):Int×Int×Int:=if Q8 r0 r1 r2 r3 S a b=0 then
    (((ZG (λd=>atF (cvS r0 r1 r2 r3 (S.map Ze)) (2 ^ S.length - 1) d S.length) a.toNat (b - a).toNat).1:Int),(ZG (λd=>atF (cvS r0 r1 r2 r3 (S.map Ze)) (2 ^ S.length - 1) d S.length) a.toNat (b - a).toNat).2)else(0,0,0)
def gL{a:Int}(h:Uy a b=0):a<=b:=by
 unfold Uy at h;split at h
 .omega
 .omega
def Cv.setPair{C:Nat->Nat->Int×Int}(h:Cv w B n p C){b:Nat}{x y:Int}{t:NT}(z:w.heap[b]? =NA (U #[x,y] t))(i:Nat)(v:NM):Cv (w.setCell ⟨b,i,NB⟩ v) B n p C:=by
 have d:∀i,i<n->B≠b:=by
  rintro i hi rfl;have:=h.ptr i hi;rw[Z0 z]at this
  match i,this with
  |0,this=>simp at this
  |1,this=>simp at this
  |i+2,this=>simp at this
 have o:∀i,i<n->p i≠b:=by
  rintro i hi rfl;have:=h.lo i 90 hi OA;rw[Z0 z]at this;simp at this
 have f:∀c j,c≠b->(w.setCell ⟨b,i,NB⟩ v).cell? ⟨c,j,NB⟩=w.cell? ⟨c,j,NB⟩:=λc j e=>by simp only[World.cell?,set_ne (w:=w) (a:=⟨b,i,NB⟩) (b:=c) e v]
 exact⟨λj e=>(f _ _ (d j e)).trans (h.ptr j e),λj d e m=>(f _ _ (o j e)).trans (h.lo j d e m),λj d e m=>(f _ _ (o j e)).trans (h.hi j d e m)⟩
def Cv.setPair2{C:Nat->Nat->Int×Int}(h:Cv w B n p C){b:Nat}{x y:Int}{t:NT}(a:w.heap[b]? =NA (U #[x,y] t))(d e:Int):Cv ((w.setCell b (Z I d)).setCell ⟨b,1,NB⟩ (Z I e)) B n p C:=
 (h.setPair a 0 _).setPair (x:=d) (y:=y) (Zb a _) 1 _
def lw(r0 r1 r2 r3:Int)(z:Option NP)(n A:Nat)(w:NL)(m o:Int)(S:List Rs)(A1:S.length=n)(hS:RawS w z S)(E7:Most w):
 NW prog 29 #[NJ #[r0,r1,r2,r3,J z n A],m,o] w λe M=>
  e= .returned (.tuple #[.int I (Tq r0 r1 r2 r3 S m o).1,NJ #[.int I (Tq r0 r1 r2 r3 S m o).2.1,.int I (Tq r0 r1 r2 r3 S m o).2.2],Z I (Q8 r0 r1 r2 r3 S m o)])/\Ext w M:=by
 go_enter fk Tryz.func29,Tryz.ntmps29;go_wp2_with fail;have Af:Ext w _:=((((Ext.rfl' w).alloc (U #[r0,r1,r2,r3,J z n A] 31)).alloc (U #[m] 3)).alloc (U #[o] 3)).alloc (U OH 49);have hb:((((w.alloc (U #[r0,r1,r2,r3,J z n A] 31)).alloc (U #[m] 3)).alloc (U #[o] 3)).alloc (U OH 49)).heap[w.heap.size]? =NA (U #[r0,r1,r2,r3,J z n A] 31):=by
  simp only[Z3,Z2];rw[XB OA,XB OA,XB OA,YZ trivial]
 have hZ:((((w.alloc (U #[r0,r1,r2,r3,J z n A] 31)).alloc (U #[m] 3)).alloc (U #[o] 3)).alloc (U OH 49)).heap[w.heap.size+1]? =NA (U #[m] 3):=by
  simp only[Z3,Z2];rw[XB OA,XB OA,YZ trivial]
 have hY:((((w.alloc (U #[r0,r1,r2,r3,J z n A] 31)).alloc (U #[m] 3)).alloc (U #[o] 3)).alloc (U OH 49)).heap[w.heap.size+1+1]? =NA (U #[o] 3):=by
  simp only[Z3,Z2];rw[XB OA,YZ trivial]
 have hT:((((w.alloc (U #[r0,r1,r2,r3,J z n A] 31)).alloc (U #[m] 3)).alloc (U #[o] 3)).alloc (U OH 49)).heap[w.heap.size+1+1+1]? =NA (U OH 49):=by
  simp only[Z3,Z2];rw[YZ trivial]
 generalize World.alloc _ _=w1 at Af hb hZ hY hT⊢;have C:=Ext.rfl' w1;have q0:=Z0 hb 0;have q1:=Z0 hb 1;have q2:=Z0 hb 2;have q3:=Z0 hb 3;have q4:=Z0 hb 4;simp only[YC,YA,YB]at q0 q1 q2 q3 q4;have V:=ZQ q0;have g1:=ZQ q1;have g2:=ZQ q2;have g3:=ZQ q3;have g4:=ZQ q4;have a7:w1.cell? ⟨w.heap.size+1,0,NB⟩=NA (Z I m):=by rw[Z0 hZ];rfl
 have b0:w1.cell? ⟨w.heap.size+1+1,0,NB⟩=NA (Z I o):=by rw[Z0 hY];rfl
 have g5:=ZQ a7;have g6:=ZQ b0;refine Rt 12 11 9 [0,1,2,3,4,5,6,7,8,9] (U #[Z I 0,Z I 0,Z I 0,Z I 0,J NB 0 0,J NB 0 0] 136) OB rfl OB rfl rfl (λa W=>by simp[go_sem,NU,Act.eval]) ?_;refine WT [0,1,3,5] OB rfl rfl OB ?_;simp only[ZR,YB,YA,YK,YJ]
 repeat (go_big_quiet_step (fail))
 refine XI ?_;refine WV 2 rfl OB rfl (λW y=>Yd (f:=68) (args:= #[m]) OE ?_);refine(LP m W).mono ?_;rintro e _ ⟨p0,rfl,H,Es⟩;refine⟨.func (.func 112) #[] #[NI (NA p0)],rfl,H,?_⟩;replace C:=C.trans (y.trans H);clear H y;go_simp;refine WV 4 rfl OB rfl (λW y=>Yd (f:=68) (args:= #[o]) OE ?_);refine(LP o W).mono ?_;rintro e _ ⟨p1,rfl,H,Fr⟩;refine⟨.func (.func 112) #[] #[NI (NA p1)],rfl,H,?_⟩;replace C:=C.trans (y.trans H);replace Es:=(y.trans H).cellS Es;clear H y;go_simp;refine WV 6 rfl OB rfl (λW y=>Ye ⟨J (NA W.heap.size) 3 3,W.alloc (U #[.func (.func 112) #[] #[NI (NA p0)],.func (.func 112) #[] #[NI (NA p1)],.func (.func 73) #[] #[NI (NA ⟨w.heap.size+1,0,NB⟩),NI (NA ⟨w.heap.size+1+1,0,NB⟩)]] 129),OE,(Ext.rfl' W).alloc _,?_⟩);have Bb:=HB W #[.func (.func 112) #[] #[NI (NA p0)],.func (.func 112) #[] #[NI (NA p1)],.func (.func 73) #[] #[NI (NA ⟨w.heap.size+1,0,NB⟩),NI (NA ⟨w.heap.size+1+1,0,NB⟩)]] [(112,#[],#[NI (NA p0)]),(112,#[],#[NI (NA p1)]),(73,#[],#[NI (NA ⟨w.heap.size+1,0,NB⟩),NI (NA ⟨w.heap.size+1+1,0,NB⟩)])] W.heap.size rfl rfl
 have H:=(y.alloc (U #[.func (.func 112) #[] #[NI (NA p0)],.func (.func 112) #[] #[NI (NA p1)],.func (.func 73) #[] #[NI (NA ⟨w.heap.size+1,0,NB⟩),NI (NA ⟨w.heap.size+1+1,0,NB⟩)]] 129));replace C:=C.trans H;replace Es:=H.cellS Es;replace Fr:=H.cellS Fr;clear H y;generalize W.heap.size=B2 at Bb⊢;generalize World.alloc W _=V9 at*;go_simp;refine WV 7 rfl OB rfl (λW y=>Yd (f:=67) (args:= #[NJ #[r0,r1,r2,r3,J z n A],J (NA B2) 3 3]) OE ?_)
 refine(Ie r0 r1 r2 r3 z n A W 3 B2 OA [(112,#[],#[NI (NA p0)]),(112,#[],#[NI (NA p1)]),(73,#[],#[NI (NA ⟨w.heap.size+1,0,NB⟩),NI (NA ⟨w.heap.size+1+1,0,NB⟩)])] [Zv m,Zv o,Uy m o] rfl rfl (λj x hj=>y.cellS (Bb j x hj)) (by intro x hx args M;simp only[XG,XO,UE]at hx;rcases hx with rfl|rfl|rfl<;>simp[go_sem]) (by
       intro j x r hj hr M a6
       match j,hj,hr with
       |0,hj,hr=>
        obtain rfl:=YT hj;obtain rfl:=YT hr;exact L6 p0 m M ((y.trans a6).cellS Es)
       |1,hj,hr=>
        obtain rfl:=YT hj;obtain rfl:=YT hr;exact L6 p1 o M ((y.trans a6).cellS Fr)
       |2,hj,hr=>
        obtain rfl:=YT hj;obtain rfl:=YT hr;exact pv _ _ m o M ((C.trans (y.trans a6)).cellS a7) ((C.trans (y.trans a6)).cellS b0)) S A1 (hS.ext (Af.trans (C.trans y))) (E7.ext (Af.trans (C.trans y)))).mono ?_
 rintro e c6 ⟨k0,k1,k2,k3,b4,n4,c4,b5,n5,c5,rfl,H,D3⟩;refine⟨.tuple #[NJ #[k0,k1,k2,k3,J b4 n4 c4,J b5 n5 c5],Z I (firstV (Zy r0 r1 r2 r3 S [Zv m,Zv o,Uy m o]))],rfl,H,?_⟩;replace C:=C.trans (y.trans H);have B1:Askd r0 r1 r2 r3 z n A S [Zv m,Zv o,Uy m o] k0 k1 k2 k3 b4 n4 c4 b5 n5 c5 c6:=λh=>by obtain⟨B,p,h0,h1,h2,h3,h4,h5,h6,h7,h8,h9,hC,_⟩:=D3 h;exact⟨B,p,h0,h1,h2,h3,h4,h5,h6,h7,h8,h9,hC⟩
 clear H y D3 Bb Es Fr;go_simp;refine WT [8,9,10] OB rfl rfl OB ?_;simp only[ZR,YB,YA,YK,YJ]
 repeat (go_big_quiet_step (fail))
 refine XI ?_;refine Qh OB (λW y b hA C5 E=> ?_);have Gv:w1.heap.size<=b:=hA.1.1.1.1;replace C:=C.trans y;replace B1:=B1.ext y;clear a7 b0 g5 g6;clear y;go_simp;refine Vk 2 OB (λW y=> ?_);simp only[UD,VZ];replace C:=C.trans y;replace B1:=B1.ext y;replace E:=y.get E;have Eb:w.heap.size<=b:=by have h1:=Gv;have h2:=Af.size;omega
 have Vz:=C.get hZ;have Y6:w.heap.size+1≠b:=by have h1:=Gv;have h2:=Z5 hZ;omega
 have W0:=C.get hY;have Y7:w.heap.size+1+1≠b:=by have h1:=Gv;have h2:=Z5 hY;omega
 have b3:=C.get hT;have Mw:w.heap.size+1+1+1≠b:=by have h1:=Gv;have h2:=Z5 hT;omega
 have Bj:=Af.trans C;clear hA Gv C5 y C Af hb q0 q1 q2 q3 q4 V g1 g2 g3 g4 hZ hY hT;have x0:=Z8 E 0;have x1:=Z8 E 1;have x2:=Z8 E 2;have x3:=Z8 E 3;have x4:=Z8 E 4;have x5:=Z8 E 5;have y0:=Z0 E 0;have y1:=Z0 E 1;have y2:=Z0 E 2;have y3:=Z0 E 3;have y4:=Z0 E 4;have y5:=Z0 E 5;simp only[YC,YA,YB]at y0 y1 y2 y3 y4 y5;have Al:=HC E (Z I k0) (Z I k1) (Z I k2) (Z I k3) (J b4 n4 c4) (J b5 n5 c5);obtain⟨C,Et⟩:=Al;replace B1:=B1.stored E Et;replace Bj:=Et.before Bj Eb;have O1:=Et.get Y6 Vz;have Pb:=Et.get Y7 W0;have Wp:=Et.get Mw b3;go_wp2_with fail;generalize ((((((W.setCell b (Z I k0)).setCell ⟨b,1,NB⟩ (Z I k1)).setCell ⟨b,2,NB⟩ (Z I k2)).setCell ⟨b,3,NB⟩ (Z I k3)).setCell ⟨b,4,NB⟩ (J b4 n4 c4)).setCell ⟨b,5,NB⟩ (J b5 n5 c5))=X at C B1 Bj Et O1 Pb Wp⊢;clear Et E Eb x0 x1 x2 x3 x4 x5 y0 y1 y2 y3 y4 y5 Vz W0 b3;refine Vm ?_;have u:=Zc Wp;have u0:=u.1;have u1:=u.2.1;have v0:=u.2.2.1;have v1:=u.2.2.2;clear u;go_wp2_with fail
 .have Ab:(firstV (Zy r0 r1 r2 r3 S [Zv m,Zv o,Uy m o]) !=0)=true:=by assumption
  have Cg:¬Q8 r0 r1 r2 r3 S m o=0:=by simpa[Q8]using Ab
  have Fl:w.heap.size<=w.heap.size+1+1+1:=OA
  have hh:=Zc (set_pair Wp (Z I 0) (Z I 0));have Vw:=hh.1;have Vx:=hh.2.1;refine VE (v:= .tuple #[Z I 0,.agg OH,Z I (Q8 r0 r1 r2 r3 S m o)]) ((cy rfl _ _ _).trans ?_) rfl ⟨by rw[Tq,XB Cg],(Bj.setCell _ _ Fl).setCell _ _ Fl⟩;simp[go_sem,Vw,Vx];rfl
 .have heq:(firstV (Zy r0 r1 r2 r3 S [Zv m,Zv o,Uy m o]) !=0)=false:=by assumption
  have Cg:firstV (Zy r0 r1 r2 r3 S [Zv m,Zv o,Uy m o])=0:=by simpa using heq
  obtain⟨Hs,Hr,Dm,Q2⟩:=Iz Cg;obtain⟨_,h8,_⟩:=PH Hs;have Dj:=LI (Hr (Zv m) OD);have Pi:=LI (Hr (Zv o) OD);have b1:=gL (Hr (Uy m o) OD);obtain⟨d,rfl⟩:=UA Dj.1;obtain⟨t,rfl⟩:=UA Pi.1;have Fj:d<=90:=OA
  have c8:t<=90:=OA
  have d0:d<=t:=OA
  obtain⟨B,p',_,e1,e2,e3,e4,_,_,e7,_,_,hC⟩:=B1 Cg;subst k0 k1 k2 k3 b4 n4 c4 b5 n5 c5;have Fc:n<=8:=OA
  have C3:=λv M=>N9 r0 r1 r2 r3 z n A v Fc M
  have Jt:=fun(d:Nat)(Fj:d<=90) M b8 c7=>LY r0 r1 r2 r3 (J z n A) B n d (2 ^ n - 1) p' (cvS r0 r1 r2 r3 (S.map Ze)) Fc Fj (KI Fc) M b8 c7
  have HR:Hid (Tq r0 r1 r2 r3 S d t=(((ZG (λd=>atF (cvS r0 r1 r2 r3 (S.map Ze)) (2 ^ n - 1) d n) d (t - d)).1:Int),(ZG (λd=>atF (cvS r0 r1 r2 r3 (S.map Ze)) (2 ^ n - 1) d n) d (t - d)).2)):=by
   show _=_;rw[Tq,YZ (show Q8 r0 r1 r2 r3 S d t=0 from Cg),A1];simp
  have Du:Hid (Q8 r0 r1 r2 r3 S d t=0):=Cg;have Hd:=E7.ext Bj;clear B1 Hs Hr Dm Q2 heq Cg Dj Pi b1;generalize (2:Int) ^ n - 1=st at C3 Jt HR;obtain⟨F,H⟩:∃F:Nat->Int×Int,F=λd=>atF (cvS r0 r1 r2 r3 (S.map Ze)) st d n:=⟨_,rfl⟩
  rw[<-H]at HR;replace Jt:∀d:Nat,d<=90->∀M,Most M->Cv M B n p' (cvS r0 r1 r2 r3 (S.map Ze))->NW prog 69 #[NJ #[r0,r1,r2,r3,J z n A,J (NA B) n n],st,d] M (OI (NJ #[.int I (F d).1,.int I (F d).2]) M):=by subst H;exact Jt
  clear H;have O:=Jt d Fj;obtain⟨⟨va,vb⟩,a8⟩:∃v,F d=v:=⟨_,rfl⟩;rw[a8]at O;have HF:Hid (F d=(va,vb)):=a8;clear a8;obtain⟨bs,rfl⟩:∃bs,bs=b:=⟨_,rfl⟩;have b7:bs≠w.heap.size+1+1+1:=Mw.symm;have Kh:=Z0 O1 0;simp only[YC,YA]at Kh;have T:=ZQ Kh;clear Y6 Y7 Mw u0 u1 v0 v1;have x0:=Z0 C 0;have x1:=Z0 C 1;have x2:=Z0 C 2;have x3:=Z0 C 3;have x4:=Z0 C 4;have x5:=Z0 C 5;simp only[YC,YA,YB]at x0 x1 x2 x3 x4 x5;have c0:=ZQ x0;have c1:=ZQ x1;have c2:=ZQ x2;have c3:=ZQ x3;have c4:=ZQ x4;have c5:=ZQ x5;refine Z9 7 OB ?_;refine ZS [0,1,2,4] OB OB ?_;simp only[ZR,YB,YA,YK,YJ]
  repeat (go_big_quiet_step (fail))
  refine XI ?_;refine Z4 3 (f:=70) (args:= #[NJ #[r0,r1,r2,r3,J z n A,J (NA B) n n]]) (v:= Z I st) OB rfl OB rfl (λW=>by simp[go_sem,NU,Act.eval]) (λW _=>C3 _ W) ?_;go_simp;refine Z4 5 (f:=69) (args:= #[NJ #[r0,r1,r2,r3,J z n A,J (NA B) n n],st,d]) (v:= NJ #[va,vb]) OB rfl OB rfl (λW=>by simp[go_sem,NU,Act.eval]) (λW y=>O W (Hd.ext y) (hC.ext y)) ?_;go_simp;refine ZS [6] OB OB ?_;simp only[ZR,YB,YA,YK,YJ]
  repeat (go_big_quiet_step (fail))
  refine XI ?_;refine Vk 1 OB (λW y=> ?_);simp only[UD,VZ];have Yh:=y.get Wp;have Wq:=y.get Pb;have R8:=y.get C;have Cl:=Bj.trans y;have Fl:w.heap.size<=w.heap.size+1+1+1:=OA
  have Yi:=set_pair Yh (Z I va) (Z I vb);have Yj:=Su (i:=0) (j:=1) (u:= Z I va) (v:= Z I vb) (show w.heap.size+1+1≠w.heap.size+1+1+1 by omega) Wq;have Yk:=Su (i:=0) (j:=1) (u:= Z I va) (v:= Z I vb) b7 R8;have Yl:=(hC.ext y).setPair2 Yh va vb;have Bn:=(Cl.setCell ⟨w.heap.size+1+1+1,0,NB⟩ (Z I va) Fl).setCell ⟨w.heap.size+1+1+1,1,NB⟩ (Z I vb) Fl;have b9:=Su (i:=0) (j:=1) (u:= Z I va) (v:= Z I vb) (show w.heap.size+1≠w.heap.size+1+1+1 by omega) (y.get O1);have g:=Zc Yh;have V:=g.1;have g1:=g.2.1;have g2:=g.2.2.1;have g3:=g.2.2.2;clear g Pb O1 Wp C Bj y Fl Cl R8 Wq Yh x0 x1 x2 x3 x4 x5 c0 c1 c2 c3 c4 c5 Hd hC Kh T O;go_wp2_with fail;generalize (W.setCell ⟨w.heap.size+1+1+1,0,NB⟩ (Z I va)).setCell ⟨w.heap.size+1+1+1,1,NB⟩ (Z I vb)=Y9 at*;clear V g1 g2 g3;refine Vm ?_;have Kh:=Z0 b9 0;simp only[YC,YA]at Kh;obtain rfl:va=(F d).1:=by rw[HF.out]
  obtain rfl:vb=(F d).2:=by rw[HF.out]
  clear HF;go_wp2_with fail;go_loopw [6,10] (λva vd wr=>∃k:Nat,k<=t - d/\va= Z I ((ZG F d k).1:Int)/\vd= Z I ((d+1+k:Nat):Int)/\Ext w wr/\Cv wr B n p' (cvS r0 r1 r2 r3 (S.map Ze))/\wr.heap[bs]? =NA (U #[r0,r1,r2,r3,J z n A,J (NA B) n n] 136)/\wr.heap[w.heap.size+1+1]? =NA (U #[t] 3)/\wr.heap[w.heap.size+1+1+1]? =NA (U #[.int I (ZG F d k).2.1,.int I (ZG F d k).2.2] 49)) (λ_ vd _=>t+1 - (intOf vd).toNat)
  case atStart=>exact⟨0,XL _,rfl,by push_cast;rfl,Bn,Yl,Yk,Yj,Yi⟩
  case round=>
   obtain⟨q,_,rfl,rfl,Bp,Il,N9,Ym,Oa⟩:=hrel;clear Bn Yl Yk Yj Yi;have HS:Hid (ZG F d (q+1)=if wrap64 ((ZG F d q).2.2 - (ZG F d q).2.1)<wrap64 ((F (d+1+q)).2 - (F (d+1+q)).1)then(d+1+q,F (d+1+q))else ZG F d q):=rfl;obtain⟨⟨mi,pa,pb⟩,a9⟩:∃v,ZG F d q=v:=⟨_,rfl⟩;rw[a9]at HS Oa⊢;have HW:Hid (ZG F d q=(mi,pa,pb)):=a9;clear a9;have g:=Zc Oa;have V:=g.1;have g1:=g.2.1;have g2:=g.2.2.1;have g3:=g.2.2.2;have O5:=Z0 Ym 0;simp only[YC,YA]at O5;have a5:=ZQ V;have T:=ZQ g1;clear g;by_cases Cs:q=t - d
   .subst Cs;have A5:¬((d+1+(t - d):Nat):Int)<=(t:Int):=OA;have Gm:decide (((d+1+(t - d):Nat):Int)<=(t:Int))=false:=XV A5;clear HS Jt C3;go_wp2_with fail;refine Z9 3 OB ?_;refine ZS [0,1,2] OB OB ?_;simp only[ZR,YB,YA,YK,YJ]
    repeat (go_big_quiet_step (fail))
    refine XI ?_;refine Vk 2 OB (λW y=> ?_);simp only[UD,VZ];replace Bp:=Bp.trans y;replace Oa:=y.get Oa;clear y V g1 g2 g3 a5 T N9;have g:=Zc Oa;have V:=g.1;have g1:=g.2.1;have g2:=g.2.2.1;have g3:=g.2.2.2;go_wp2_with fail;refine Vm ?_;go_wp2_with fail;have Xr:=Zc (set_pair Oa (Z I pa) (Z I pb));have b2:=Xr.1;have b6:=Xr.2.1;have Fl:w.heap.size<=w.heap.size+1+1+1:=OA;refine VE (v:= .tuple #[.int I (Tq r0 r1 r2 r3 S d t).1,NJ #[.int I (Tq r0 r1 r2 r3 S d t).2.1,.int I (Tq r0 r1 r2 r3 S d t).2.2],Z I (Q8 r0 r1 r2 r3 S d t)]) ((cy rfl _ _ _).trans ?_) rfl ⟨rfl,(Bp.setCell _ _ Fl).setCell _ _ Fl⟩;simp[go_sem,b2,b6];rw[HR.out,Du.out,HW.out];simp
   .have A5:((d+1+q:Nat):Int)<=(t:Int):=OA;have Gm:decide (((d+1+q:Nat):Int)<=(t:Int))=true:=VB A5;obtain⟨e,he⟩:∃e:Nat,e=d+1+q:=⟨_,rfl⟩;rw[<-he]at A5 Gm HS⊢;have d1:e<=d+1+q:=OA;have c9:d+1+q<=e:=OA;clear he;have O:=Jt e OA;obtain⟨⟨K,L⟩,HF⟩:∃v,F e=v:=⟨_,rfl⟩;rw[HF]at O HS;clear HF;have x0:=Z0 N9 0;have x1:=Z0 N9 1;have x2:=Z0 N9 2;have x3:=Z0 N9 3;have x4:=Z0 N9 4;have x5:=Z0 N9 5;simp only[YC,YA,YB]at x0 x1 x2 x3 x4 x5;have c0:=ZQ x0;have c1:=ZQ x1;have c2:=ZQ x2;have c3:=ZQ x3;have c4:=ZQ x4;have c5:=ZQ x5;have Hd:=E7.ext Bp;clear V g1 g2 g3 a5 T;go_wp2_with fail;refine Rt 6 5 11 [0,1,2,3,4] (U OH 49) OB rfl OB rfl rfl (λa W=>by simp[go_sem,NU,Act.eval]) ?_;refine WT [0,1,3] OB rfl rfl OB ?_;simp only[ZR,YB,YA,YK,YJ]
    repeat (go_big_quiet_step (fail))
    refine XI ?_;refine Mf 2 (f:=70) (args:= #[NJ #[r0,r1,r2,r3,J z n A,J (NA B) n n]]) (v:= Z I st) OB rfl rfl rfl OB rfl (λW=>by simp[go_sem,NU,Act.eval]) (λW _=>C3 _ W) ?_;go_simp;refine Mf 4 (f:=69) (args:= #[NJ #[r0,r1,r2,r3,J z n A,J (NA B) n n],st,e]) (v:= NJ #[K,L]) OB rfl rfl rfl OB rfl (λW=>by simp[go_sem,NU,Act.eval]) (λW y=>O W (Hd.ext y) (Il.ext y)) ?_;go_simp;refine Qh OB (λW y b hA C5 E=> ?_);obtain⟨bx,rfl⟩:∃bx,bx=b:=⟨_,rfl⟩;have Ag:=y;clear y;go_simp;refine Vk 1 OB (λW y=> ?_);simp only[UD,VZ];replace E:=y.get E;have Eb:wr.heap.size<=bx:=hA;have Iw:=set_pair E (Z I K) (Z I L);have Mm:=Z5 N9;have He:=Z5 Ym;have Jm:=Z5 Oa;have Ba:=Bp.size;have My:=(((Bp.trans Ag).trans y).setCell ⟨bx,0,NB⟩ (Z I K) (show w.heap.size<=bx by omega)).setCell ⟨bx,1,NB⟩ (Z I L) (show w.heap.size<=bx by omega)
    have Wr:=((Il.ext Ag).ext y).setPair2 E K L;have Ws:=Su (i:=0) (j:=1) (u:= Z I K) (v:= Z I L) (show bs≠bx by omega) (y.get (Ag.get N9));have Wt:=Su (i:=0) (j:=1) (u:= Z I K) (v:= Z I L) (show w.heap.size+1+1≠bx by omega) (y.get (Ag.get Ym));have Pj:=Su (i:=0) (j:=1) (u:= Z I K) (v:= Z I L) (show w.heap.size+1+1+1≠bx by omega) (y.get (Ag.get Oa));have g:=Zc E;have V:=g.1;have g1:=g.2.1;have g2:=g.2.2.1;have g3:=g.2.2.2;clear g Bp Il N9 Ym Oa y Ag Eb hA C5 Mm He Jm Ba x0 x1 x2 x3 x4 x5 c0 c1 c2 c3 c4 c5 O Hd;go_wp2_with fail;generalize (W.setCell bx (Z I K)).setCell ⟨bx,1,NB⟩ (Z I L)=Y at*;clear V g1 g2 g3 E;refine Vm ?_;have g:=Zc Iw;have V:=g.1;have g1:=g.2.1;have g2:=g.2.2.1;have g3:=g.2.2.2;have k:=Zc Pj;have k0:=k.1;have k1:=k.2.1;have k2:=k.2.2.1;have k3:=k.2.2.2;clear g k;have a5:=ZQ V;have T:=ZQ g1;go_wp2_with fail
    .rename_i hgt0;have Jc:wrap64 (pb - pa)<wrap64 (L - K):=(by simpa using hgt0);clear hgt0;refine Z9 3 OB ?_;refine ZS [0,1,2] OB OB ?_;simp only[ZR,YB,YA,YK,YJ]
     repeat (go_big_quiet_step (fail))
     refine XI ?_;refine Vk 1 OB (λW y=> ?_);simp only[UD,VZ];replace My:=My.trans y;replace Wr:=Wr.ext y;replace Ws:=y.get Ws;replace Wt:=y.get Wt;replace Pj:=y.get Pj;clear y Iw V g1 g2 g3 a5 T k0 k1 k2 k3;have k:=Zc Pj;have k0:=k.1;have k1:=k.2.1;have k2:=k.2.2.1;have k3:=k.2.2.2;clear k;have Yi:=set_pair Pj (Z I K) (Z I L);have Yk:=Su (i:=0) (j:=1) (u:= Z I K) (v:= Z I L) b7 Ws;have Yj:=Su (i:=0) (j:=1) (u:= Z I K) (v:= Z I L) (show w.heap.size+1+1≠w.heap.size+1+1+1 by omega) Wt;have Yl:=Wr.setPair2 Pj K L;have Fl:w.heap.size<=w.heap.size+1+1+1:=OA;have Bn:=(My.setCell ⟨w.heap.size+1+1+1,0,NB⟩ (Z I K) Fl).setCell ⟨w.heap.size+1+1+1,1,NB⟩ (Z I L) Fl;clear My Wr Ws Wt Pj Fl;go_wp2_with fail;generalize (W.setCell ⟨w.heap.size+1+1+1,0,NB⟩ (Z I K)).setCell ⟨w.heap.size+1+1+1,1,NB⟩ (Z I L)=Y2 at*;clear k0 k1 k2 k3;refine Vm ?_;go_wp2_with fail;exact⟨⟨q+1,OA,by rw[HS.out,YZ Jc],RJ (Value.int I) (by push_cast;omega),Bn,Yl,Yk,Yj,by rw[HS.out,YZ Jc];exact Yi⟩,by simp[intOf];omega⟩
    .rename_i hgt0;have Jc:¬wrap64 (pb - pa)<wrap64 (L - K):=(by simpa using hgt0);clear hgt0;exact⟨⟨q+1,OA,by rw[HS.out,XB Jc],RJ (Value.int I) (by push_cast;omega),My,Wr,Ws,Wt,by rw[HS.out,XB Jc];exact Pj⟩,by simp[intOf];omega⟩
def bestV(x:Int×Int):Int×Int:=(wrap64 (x.2 - wrap64 ((wrap64 (wrap64 (x.2 - x.1)+1)).tdiv 2)),wrap64 ((wrap64 (wrap64 (x.2 - x.1)+1)).tdiv 2))
def Np(r0 r1 r2 r3:Int)(S:List Rs)(a:Int):Int×Int:=if ZA r0 r1 r2 r3 S a=0 then bestV (PL r0 r1 r2 r3 S a)else(0,0)
def mD(r0 r1 r2 r3:Int)(m:Option NP)(n C:Nat)(w:NL)(o:Int)(S:List Rs)(A1:S.length=n)(hS:RawS w m S)(E7:Most w):
 NW prog 28 #[NJ #[r0,r1,r2,r3,J m n C],o] w λe K=>
  e= .returned (.tuple #[.int I (Np r0 r1 r2 r3 S o).1,.int I (Np r0 r1 r2 r3 S o).2,Z I (ZA r0 r1 r2 r3 S o)])/\Ext w K:=by
 go_enter fk Tryz.func28,Tryz.ntmps28;go_wp2_with fail;have Af:Ext w _:=(Ext.rfl' w).alloc (U #[r0,r1,r2,r3,J m n C] 31);have O:(w.alloc (U #[r0,r1,r2,r3,J m n C] 31)).heap[w.heap.size]? =NA (U #[r0,r1,r2,r3,J m n C] 31):=by
  simp only[Z3,Z2];rw[YZ trivial]
 generalize World.alloc _ _=w1 at Af O⊢;have A:=Ext.rfl' w1;have q0:=Z0 O 0;have q1:=Z0 O 1;have q2:=Z0 O 2;have q3:=Z0 O 3;have q4:=Z0 O 4;simp only[YC,YA,YB]at q0 q1 q2 q3 q4;have g0:=ZQ q0;have g1:=ZQ q1;have g2:=ZQ q2;have g3:=ZQ q3;have g4:=ZQ q4;refine Rt 9 8 7 [0,1,2,3,4,5,6] (U #[Z I 0,Z I 0,Z I 0,Z I 0,J NB 0 0,J NB 0 0] 136) OB rfl OB rfl rfl (λa W=>by simp[go_sem,NU,Act.eval]) ?_;refine WT [0,1] OB rfl rfl OB ?_;simp only[ZR,YB,YA,YK,YJ]
 repeat (go_big_quiet_step (fail))
 refine XI ?_;refine WV 2 rfl OB rfl (λW y=>Yd (f:=68) (args:= #[o]) OE ?_);refine(LP o W).mono ?_;rintro e _ ⟨p0,rfl,E,Es⟩;refine⟨.func (.func 112) #[] #[NI (NA p0)],rfl,E,?_⟩;replace A:=A.trans (y.trans E);clear E y;go_simp;refine WV 3 rfl OB rfl (λW y=>Ye ⟨J (NA W.heap.size) 1 1,W.alloc (U #[.func (.func 112) #[] #[NI (NA p0)]] 129),OE,(Ext.rfl' W).alloc _,?_⟩);have Bb:=HB W #[.func (.func 112) #[] #[NI (NA p0)]] [(112,#[],#[NI (NA p0)])] W.heap.size rfl rfl;have E:=(y.alloc (U #[.func (.func 112) #[] #[NI (NA p0)]] 129));replace A:=A.trans E;replace Es:=E.cellS Es;clear E y;generalize W.heap.size=B2 at Bb⊢;generalize World.alloc W _=V9 at*;go_simp;refine WV 4 rfl OB rfl (λW y=>Yd (f:=67) (args:= #[NJ #[r0,r1,r2,r3,J m n C],J (NA B2) 1 1]) OE ?_)
 refine(Ie r0 r1 r2 r3 m n C W 1 B2 OA [(112,#[],#[NI (NA p0)])] [Zv o] rfl rfl (λj x hj=>y.cellS (Bb j x hj)) (by intro x hx args K;simp only[XG,XO,UE]at hx;rcases hx with rfl<;>simp[go_sem]) (by
       intro j x r hj hr K a5
       match j,hj,hr with
       |0,hj,hr=>
        obtain rfl:=YT hj;obtain rfl:=YT hr;exact L6 p0 o K ((y.trans a5).cellS Es)) S A1 (hS.ext (Af.trans (A.trans y))) (E7.ext (Af.trans (A.trans y)))).mono ?_
 rintro e a7 ⟨k0,k1,k2,k3,b4,n4,T,b5,n5,c5,rfl,E,D3⟩;refine⟨.tuple #[NJ #[k0,k1,k2,k3,J b4 n4 T,J b5 n5 c5],Z I (firstV (Zy r0 r1 r2 r3 S [Zv o]))],rfl,E,?_⟩;replace A:=A.trans (y.trans E);have F:Askd r0 r1 r2 r3 m n C S [Zv o] k0 k1 k2 k3 b4 n4 T b5 n5 c5 a7:=λh=>by obtain⟨B,p,h0,h1,h2,h3,h4,h5,h6,h7,h8,h9,hC,_⟩:=D3 h;exact⟨B,p,h0,h1,h2,h3,h4,h5,h6,h7,h8,h9,hC⟩
 clear E y D3 Bb Es;go_simp;refine WT [5,6,7] OB rfl rfl OB ?_;simp only[ZR,YB,YA,YK,YJ]
 repeat (go_big_quiet_step (fail))
 refine XI ?_;refine Qh OB (λW y b hA C5 z=> ?_);have Gv:w1.heap.size<=b:=hA.1.1.1;replace A:=A.trans y;replace F:=F.ext y;clear y;go_simp;refine Vk 2 OB (λW y=> ?_);simp only[UD,VZ];replace A:=A.trans y;replace F:=F.ext y;replace z:=y.get z;have Eb:w.heap.size<=b:=by have h1:=Gv;have h2:=Af.size;omega
 have L:=Af.trans A;clear hA Gv C5 y A Af O q0 q1 q2 q3 q4 g0 g1 g2 g3 g4;have x0:=Z8 z 0;have x1:=Z8 z 1;have x2:=Z8 z 2;have x3:=Z8 z 3;have x4:=Z8 z 4;have x5:=Z8 z 5;have y0:=Z0 z 0;have y1:=Z0 z 1;have y2:=Z0 z 2;have y3:=Z0 z 3;have y4:=Z0 z 4;have y5:=Z0 z 5;simp only[YC,YA,YB]at y0 y1 y2 y3 y4 y5;have Al:=HC z (Z I k0) (Z I k1) (Z I k2) (Z I k3) (J b4 n4 T) (J b5 n5 c5);obtain⟨A,Et⟩:=Al;replace F:=F.stored z Et;replace L:=Et.before L Eb;go_wp2_with fail;generalize ((((((W.setCell b (Z I k0)).setCell ⟨b,1,NB⟩ (Z I k1)).setCell ⟨b,2,NB⟩ (Z I k2)).setCell ⟨b,3,NB⟩ (Z I k3)).setCell ⟨b,4,NB⟩ (J b4 n4 T)).setCell ⟨b,5,NB⟩ (J b5 n5 c5))=X at A F L Et⊢;clear Et z Eb x0 x1 x2 x3 x4 x5 y0 y1 y2 y3 y4 y5;refine Vm ?_;go_wp2_with fail
 .have Ab:(firstV (Zy r0 r1 r2 r3 S [Zv o]) !=0)=true:=by assumption
  have Cg:¬ZA r0 r1 r2 r3 S o=0:=by simpa[ZA]using Ab
  go_ret3;exact⟨by rw[Np,XB Cg];rfl,L⟩
 .have heq:(firstV (Zy r0 r1 r2 r3 S [Zv o]) !=0)=false:=by assumption
  have Cg:firstV (Zy r0 r1 r2 r3 S [Zv o])=0:=by simpa using heq
  obtain⟨Hs,Hr,Dm,Q2⟩:=Iz Cg;obtain⟨_,h8,_⟩:=PH Hs;have Dj:=LI (Hr (Zv o) OD);obtain⟨d,rfl⟩:=UA Dj.1;have Fj:d<=90:=OA
  obtain⟨B,p',_,e1,e2,e3,e4,_,_,e7,_,_,hC⟩:=F Cg;subst k0 k1 k2 k3 b4 n4 T b5 n5 c5;have Fc:n<=8:=OA
  have C3:=λv K=>N9 r0 r1 r2 r3 m n C v Fc K
  have H:=λK a6 a8=>LY r0 r1 r2 r3 (J m n C) B n d (2 ^ n - 1) p' (cvS r0 r1 r2 r3 (S.map Ze)) Fc Fj (KI Fc) K a6 a8
  have HV:Hid (PL r0 r1 r2 r3 S d=atF (cvS r0 r1 r2 r3 (S.map Ze)) (2 ^ n - 1) d n):=by
   show _=_;rw[PL,US,A1]
  have Du:Hid (ZA r0 r1 r2 r3 S d=0):=Cg;have Hd:=E7.ext L;clear F Hs Hr Dm Q2 heq Cg Dj;generalize (2:Int) ^ n - 1=st at C3 H HV;generalize atF (cvS r0 r1 r2 r3 (S.map Ze)) st d n=V at H HV;obtain⟨va,vb⟩:=V;have x0:=Z0 A 0;have x1:=Z0 A 1;have x2:=Z0 A 2;have x3:=Z0 A 3;have x4:=Z0 A 4;have x5:=Z0 A 5;simp only[YC,YA,YB]at x0 x1 x2 x3 x4 x5;have c0:=ZQ x0;have c1:=ZQ x1;have c2:=ZQ x2;have c3:=ZQ x3;have T:=ZQ x4;have c5:=ZQ x5;refine Rt 6 5 8 [0,1,2,3,4] (U OH 49) OB rfl OB rfl rfl (λa W=>by simp[go_sem,NU,Act.eval]) ?_;refine WT [0,1,3] OB rfl rfl OB ?_;simp only[ZR,YB,YA,YK,YJ]
  repeat (go_big_quiet_step (fail))
  refine XI ?_;refine Mf 2 (f:=70) (args:= #[NJ #[r0,r1,r2,r3,J m n C,J (NA B) n n]]) (v:= Z I st) OB rfl rfl rfl OB rfl (λW=>by simp[go_sem,NU,Act.eval]) (λW _=>C3 _ W) ?_;go_simp;refine Mf 4 (f:=69) (args:= #[NJ #[r0,r1,r2,r3,J m n C,J (NA B) n n],st,d]) (v:= NJ #[va,vb]) OB rfl rfl rfl OB rfl (λW=>by simp[go_sem,NU,Act.eval]) (λW y=>H W (Hd.ext y) (hC.ext y)) ?_;go_simp;refine Qh OB (λW y b hA C5 z=> ?_);obtain⟨M,rfl⟩:∃M,M=b:=⟨_,rfl⟩;have Ag:=y;clear y;go_simp;refine Vk 1 OB (λW y=> ?_);simp only[UD,VZ];replace z:=y.get z;have Cl:=(L.trans Ag).trans y;have Eb:w.heap.size<=M:=by have h1:=hA;have h2:=L.size;omega
  have Iw:=set_pair z (Z I va) (Z I vb);have My:=(Cl.setCell M (Z I va) Eb).setCell ⟨M,1,NB⟩ (Z I vb) Eb;have g:=Zc z;have g0:=g.1;have g1:=g.2.1;have g2:=g.2.2.1;have g3:=g.2.2.2;clear g Cl L y Ag Eb hA C5 hC Hd C3 H A x0 x1 x2 x3 x4 x5 c0 c1 c2 c3 T c5;go_wp2_with fail;generalize (W.setCell M (Z I va)).setCell ⟨M,1,NB⟩ (Z I vb)=Y at Iw My⊢;clear g0 g1 g2 g3 z;refine Vm ?_;have g:=Zc Iw;have g0:=g.1;have g1:=g.2.1;have g2:=g.2.2.1;have g3:=g.2.2.2;go_wp2;go_ret3;exact⟨by rw[Np,YZ Du.out,Du.out,HV.out];rfl,My⟩
structure Fine(r0 r1 r2 r3:Int)(S:List Rs):Prop where
 cf:ZC r0 r1 r2 r3 S=0
 ne:S≠[]
 ft:Wh r0 r1 r2 r3 S (upL S.length)=true
section
variable {S:List Rs}(hg:Fine r0 r1 r2 r3 S)
include hg
end
section
variable {S:List Rs}(hg:Fine r0 r1 r2 r3 S)
include hg
end
variable [Tw]
def Xc{b:Nat}{t:NT}(h:w.heap[b]? =NA (U #[a0,a1,a2,a3,a4] t)):
 w.cell? ⟨b,0,NB⟩=NA a0/\w.cell? ⟨b,1,NB⟩=NA a1/\w.cell? ⟨b,2,NB⟩=NA a2/\w.cell? ⟨b,3,NB⟩=NA a3/\w.cell? ⟨b,4,NB⟩=NA a4:=
 ⟨Z0 h 0,Z0 h 1,Z0 h 2,Z0 h 3,Z0 h 4⟩
end Go.Proofs.Tryq
