import Derived.Test.YthahddndgbpooaaGreatDoorNk06
import Derived.LaidMore
import Derived.LaidSub
import Derived.Laws.EntriesVeiled
import Derived.Lib.ConvBytes
import Derived.Test.YthahddndgbpooaaGreatDoorRows
set_option linter.all false
set_option maxRecDepth 100000
set_option maxHeartbeats 4000000
open Go
open Option renaming some->I,none->NB
open Go.IntKind renaming i64->J
open Go.Value renaming int->U,slice->Z,pointer->NI,agg->NJ
open Go renaming World->NL,Calls->NW,Value->NM,TypeId->NT,Addr->NP,Program->NO,execOp->NU
open Go.Obj renaming cells->NH
open Bool renaming false->ND,true->NC
open Go.Proofs.Tryz renaming prog->NX
variable {held va:Bool}{f0:FuncId}{a k0 k1 r0 r1 r2 r3 v:Int}{l rs:List Int}{r:List UInt8}{cs:List NM}{B b c c4 c5 cap fuel i m n n4 n5 o off:Nat}{spare:Nat->Bool}{p:Nat->Nat}{b4 b5:Option NP}{P:NO}{e t u:NT}{W w w':NL}
namespace Go.Proofs.Tryq
section
open Go Go.Nk Go.RowKit
def LP(d:Int)(w:NL):NW prog 68 #[d] w λe w'=>∃p,e= .returned (.func (.func 112) #[] #[NI (I ⟨p,0,NB⟩)])/\Ext w w'/\w'.cell? ⟨p,0,NB⟩=I (U J d):=by
 refine(pq d w).q ?_;refine⟨_,rfl,(Ext.rfl' w).alloc _,?_⟩;rw[Z0 (by rw[Z3,YZ rfl])];rfl
def firstV_all:∀{l:List Int},firstV l=0->∀x∈l,x=0
 |[],_,x,hx=>by cases hx
 |y::l,h,x,hx=>by
  have d:=pA h;rw[firstV,YZ d]at h;rcases XG.1 hx with rfl|hx
  .exact d
  .exact firstV_all h x hx
def Iz{S:List Rs}(h:firstV (Zy r0 r1 r2 r3 S rs)=0):ZC r0 r1 r2 r3 S=0/\(∀r∈rs,r=0)/\M9 S.length=0/\Ov r0 r1 r2 r3 (S.map Ze)=0:=by
 have d:=firstV_all h;refine⟨d _ (by simp[Zy]),λr f=>d r (by simp[Zy,f]),d _ (by simp[Zy]),d _ (by simp[Zy])⟩
def LI(h:Zv a=0):0<=a/\a<=90:=by
 unfold Zv okN at h;split at h
 .rename_i h1;simpa using h1
 .omega
def KI(d:n<=8):(0:Int)<=2 ^ n - 1/\(2:Int) ^ n - 1<256:=by
 obtain rfl|rfl|rfl|rfl|rfl|rfl|rfl|rfl|rfl:n=0\/n=1\/n=2\/n=3\/n=4\/n=5\/n=6\/n=7\/n=8:=OA
 all_goals decide
def HB(w:NL)(cs:Array NM)(L:List Fn3)(B:Nat)(g:w.heap.size=B)(d:cs=(L.map fn3).toArray):∀(j:Nat)(x:Fn3),L[j]? =I x->(w.alloc (NH cs 129)).cell? ⟨B,j,NB⟩=I (fn3 x):=by
 intro j x f;subst g d;rw[Z0 (by rw[Z3,YZ rfl])];rw[YC,List.getElem?_map,f];rfl
def PL(r0 r1 r2 r3:Int)(S:List Rs)(a:Int):Int×Int:=atF (cvS r0 r1 r2 r3 (S.map Ze)) (2 ^ S.length - 1) a.toNat S.length
def ZA(r0 r1 r2 r3:Int)(S:List Rs)(a:Int):Int:=firstV (Zy r0 r1 r2 r3 S [Zv a])
def Zw(r0 r1 r2 r3:Int)(S:List Rs)(a:Int):Int×Int:=if ZA r0 r1 r2 r3 S a=0 then PL r0 r1 r2 r3 S a else(0,0)
def Askd(r0 r1 r2 r3:Int)(base:Option NP)(n cap:Nat)(S:List Rs)(rs:List Int)(k0 k1 k2 k3:Int)(b4:Option NP)(n4 c4:Nat)(b5:Option NP)(n5 c5:Nat)(w:NL):Prop:=
 firstV (Zy r0 r1 r2 r3 S rs)=0->∃B p,k0=r0/\k1=r1/\k2=r2/\k3=r3/\b4=base/\n4=n/\c4=cap/\b5=I ⟨B,0,NB⟩/\n5=n/\c5=n/\Cv w B n p (cvS r0 r1 r2 r3 (S.map Ze))
section
variable {k2 k3:Int}{base:Option NP}{S:List Rs}
def Askd.ext(h:Askd r0 r1 r2 r3 base n cap S rs k0 k1 k2 k3 b4 n4 c4 b5 n5 c5 w)(e:Ext w w'):Askd r0 r1 r2 r3 base n cap S rs k0 k1 k2 k3 b4 n4 c4 b5 n5 c5 w':=λC=>by
 obtain⟨B,p,g,x,y,E,d,F,K,z,f,A,j⟩:=h C;exact⟨B,p,g,x,y,E,d,F,K,z,f,A,j.ext e⟩
def Cv.stored{C:Nat->Nat->Int×Int}(h:Cv w B m p C){b:Nat}(j:w.heap[b]? =I (NH #[U J 0,U J 0,U J 0,U J 0,Z NB 0 0,Z NB 0 0] 136))(e:ExtB b w w'):Cv w' B m p C:=by
 have d:∀i,i<m->B≠b:=by
  rintro i hi rfl;have:=h.ptr i hi;rw[Z0 j]at this
  match i,this with
  |0,this|1,this|2,this|3,this|4,this|5,this=>simp at this
  |i+6,this=>simp at this
 have g:∀i,i<m->p i≠b:=by
  rintro i hi rfl;have:=h.lo i 90 hi OA;rw[Z0 j]at this;simp at this
 exact⟨λi hi=>e.cellS (d i hi) (h.ptr i hi),λi d hi f=>e.cellS (g i hi) (h.lo i d hi f),λi d hi f=>e.cellS (g i hi) (h.hi i d hi f)⟩
def Askd.stored(h:Askd r0 r1 r2 r3 base n cap S rs k0 k1 k2 k3 b4 n4 c4 b5 n5 c5 w){b:Nat}(E:w.heap[b]? =I (NH #[U J 0,U J 0,U J 0,U J 0,Z NB 0 0,Z NB 0 0] 136))(e:ExtB b w w'):Askd r0 r1 r2 r3 base n cap S rs k0 k1 k2 k3 b4 n4 c4 b5 n5 c5 w':=λC=>by
 obtain⟨B,p,g,x,y,F,d,K,L,z,f,A,j⟩:=h C;exact⟨B,p,g,x,y,F,d,K,L,z,f,A,j.stored E e⟩
end
def jy(r0 r1 r2 r3:Int)(base:Option NP)(n cap:Nat)(w:NL)(g:Int)(S:List Rs)(A1:S.length=n)(hS:RawS w base S)(E7:Most w):
 NW prog 26 #[NJ #[r0,r1,r2,r3,Z base n cap],g] w (OI (.tuple #[NJ #[.int J (Zw r0 r1 r2 r3 S g).1,.int J (Zw r0 r1 r2 r3 S g).2],U J (ZA r0 r1 r2 r3 S g)]) w):=by
 go_enter fk Tryz.func26,Tryz.ntmps26;go_wp2;have Y:Ext w _:=((Ext.rfl' w).alloc (NH #[r0,r1,r2,r3,Z base n cap] 31)).alloc (NH OH 49);have L:((w.alloc (NH #[r0,r1,r2,r3,Z base n cap] 31)).alloc (NH OH 49)).heap[w.heap.size]? =I (NH #[r0,r1,r2,r3,Z base n cap] 31):=by
  simp only[Z3,Z2];rw[XB OA,YZ trivial]
 have hz:((w.alloc (NH #[r0,r1,r2,r3,Z base n cap] 31)).alloc (NH OH 49)).heap[w.heap.size+1]? =I (NH OH 49):=by
  simp only[Z3,Z2];rw[YZ trivial]
 generalize World.alloc _ _=w1 at Y L hz⊢;have z:=Ext.rfl' w1;have q0:=Z0 L 0;have q1:=Z0 L 1;have q2:=Z0 L 2;have q3:=Z0 L 3;have q4:=Z0 L 4;simp only[YC,YA,YB]at q0 q1 q2 q3 q4;have g0:=ZQ q0;have g1:=ZQ q1;have g2:=ZQ q2;have g3:=ZQ q3;have g4:=ZQ q4;refine Rt 9 8 6 [0,1,2,3,4,5,6] (NH #[U J 0,U J 0,U J 0,U J 0,Z NB 0 0,Z NB 0 0] 136) OB rfl OB rfl rfl (λa W=>by simp[go_sem,NU,Act.eval]) ?_;refine WT [0,1] OB rfl rfl OB ?_;simp only[ZR,YB,YA,YK,YJ]
 repeat (go_big_quiet_step (fail))
 refine XI ?_;refine WV 2 rfl OB rfl (λW y=>Yd (f:=68) (args:= #[g]) OE ?_);refine(LP g W).mono ?_;rintro e _ ⟨T,rfl,E,Es⟩;refine⟨.func (.func 112) #[] #[NI (I T)],rfl,E,?_⟩;replace z:=z.trans (y.trans E);clear E y;go_simp;refine WV 3 rfl OB rfl (λW y=>Ye ⟨Z (I W.heap.size) 1 1,W.alloc (NH #[.func (.func 112) #[] #[NI (I T)]] 129),OE,(Ext.rfl' W).alloc _,?_⟩);have Bb:=HB W #[.func (.func 112) #[] #[NI (I T)]] [(112,#[],#[NI (I T)])] W.heap.size rfl rfl;have E:=(y.alloc (NH #[.func (.func 112) #[] #[NI (I T)]] 129));replace z:=z.trans E;replace Es:=E.cellS Es;clear E y;generalize W.heap.size=B2 at Bb⊢;generalize World.alloc W _=V9 at*;go_simp;refine WV 4 rfl OB rfl (λW y=>Yd (f:=67) (args:= #[NJ #[r0,r1,r2,r3,Z base n cap],Z (I B2) 1 1]) OE ?_)
 refine(Ie r0 r1 r2 r3 base n cap W 1 B2 OA [(112,#[],#[NI (I T)])] [Zv g] rfl rfl (λj x hj=>y.cellS (Bb j x hj)) (by intro x hx args w';simp only[XG,XO,UE]at hx;rcases hx with rfl<;>simp[go_sem]) (by
       intro j x r hj hr w' a0
       match j,hj,hr with
       |0,hj,hr=>
        obtain rfl:=YT hj;obtain rfl:=YT hr;exact L6 T g w' ((y.trans a0).cellS Es)) S A1 (hS.ext (Y.trans (z.trans y))) (E7.ext (Y.trans (z.trans y)))).mono ?_
 rintro e a2 ⟨k0,k1,k2,k3,b4,n4,c4,b5,n5,c5,rfl,E,D3⟩;refine⟨.tuple #[NJ #[k0,k1,k2,k3,Z b4 n4 c4,Z b5 n5 c5],U J (firstV (Zy r0 r1 r2 r3 S [Zv g]))],rfl,E,?_⟩;replace z:=z.trans (y.trans E);have F:Askd r0 r1 r2 r3 base n cap S [Zv g] k0 k1 k2 k3 b4 n4 c4 b5 n5 c5 a2:=λh=>by obtain⟨B,p,h0,h1,h2,h3,h4,h5,h6,h7,h8,h9,hC,_⟩:=D3 h;exact⟨B,p,h0,h1,h2,h3,h4,h5,h6,h7,h8,h9,hC⟩
 clear E y D3 Bb Es;go_simp;refine WT [5,6,7] OB rfl rfl OB ?_;simp only[ZR,YB,YA,YK,YJ]
 repeat (go_big_quiet_step (fail))
 refine XI ?_;refine Qh OB (λW y b hA C5 A=> ?_);replace z:=z.trans y;replace F:=F.ext y;clear y;go_simp;refine Vk 2 OB (λW y=> ?_);simp only[UD,VZ];replace z:=z.trans y;replace F:=F.ext y;replace A:=y.get A;have C:=z.get hz;have Eb:w.heap.size<=b:=by have h1:=hA.1.1.1;have h2:=Y.size;omega
 have Jy:b≠w.heap.size+1:=by have h1:=hA.1.1.1;have h2:=Z5 hz;omega
 have O:=Y.trans z;clear hA C5 y z Y L hz q0 q1 q2 q3 q4 g0 g1 g2 g3 g4;have x0:=Z8 A 0;have x1:=Z8 A 1;have x2:=Z8 A 2;have x3:=Z8 A 3;have x4:=Z8 A 4;have x5:=Z8 A 5;have y0:=Z0 A 0;have y1:=Z0 A 1;have y2:=Z0 A 2;have y3:=Z0 A 3;have y4:=Z0 A 4;have y5:=Z0 A 5;simp only[YC,YA,YB]at y0 y1 y2 y3 y4 y5;have Al:=HC A (U J k0) (U J k1) (U J k2) (U J k3) (Z b4 n4 c4) (Z b5 n5 c5);obtain⟨z,Et⟩:=Al;replace F:=F.stored A Et;replace O:=Et.before O Eb;replace C:=Et.get Jy.symm C;go_wp2_with fail;generalize ((((((W.setCell b (U J k0)).setCell ⟨b,1,NB⟩ (U J k1)).setCell ⟨b,2,NB⟩ (U J k2)).setCell ⟨b,3,NB⟩ (U J k3)).setCell ⟨b,4,NB⟩ (Z b4 n4 c4)).setCell ⟨b,5,NB⟩ (Z b5 n5 c5))=X at z F O C Et⊢;clear Et A Eb x0 x1 x2 x3 x4 x5 y0 y1 y2 y3 y4 y5;refine Vm ?_;have u0:=Z0 C 0;have u1:=Z0 C 1;have v0:=Z8 C 0;have v1:=Z8 C 1;simp only[YC,YA,YB]at u0 u1;go_wp2_with fail
 .have Ab:(firstV (Zy r0 r1 r2 r3 S [Zv g]) !=0)=NC:=by assumption
  have M:¬(ZA r0 r1 r2 r3 S g=0):=by simpa[ZA]using Ab
  refine VE (v:= .tuple #[NJ #[.int J (Zw r0 r1 r2 r3 S g).1,.int J (Zw r0 r1 r2 r3 S g).2],U J (ZA r0 r1 r2 r3 S g)]) ((MW rfl _ _ _).trans ?_) rfl ⟨rfl,(O.setCell _ _ OD).setCell _ _ OD⟩;have hq:=Zc (set_pair C (U J 0) (U J 0));simp[go_sem,hq.1,hq.2.1,Zw,XB M];rfl
 .have heq:(firstV (Zy r0 r1 r2 r3 S [Zv g]) !=0)=ND:=by assumption
  have M:firstV (Zy r0 r1 r2 r3 S [Zv g])=0:=by simpa using heq
  obtain⟨Hs,Hr,Dm,Q2⟩:=Iz M;obtain⟨_,h8,_⟩:=PH Hs;have Dj:=LI (Hr _ (XP.2 rfl));obtain⟨d,rfl⟩:=UA Dj.1;have Fj:d<=90:=OA
  obtain⟨B,p',_,e1,e2,e3,e4,_,_,e7,_,_,hC⟩:=F M;subst k0 k1 k2 k3 b4 n4 c4 b5 n5 c5;have Fc:n<=8:=OA
  have C3:=λv w'=>N9 r0 r1 r2 r3 base n cap v Fc w'
  have K:=λw' a1 a3=>LY r0 r1 r2 r3 (Z base n cap) B n d (2 ^ n - 1) p' (cvS r0 r1 r2 r3 (S.map Ze)) Fc Fj (KI Fc) w' a1 a3
  have HV:Hid (Zw r0 r1 r2 r3 S d=atF (cvS r0 r1 r2 r3 (S.map Ze)) (2 ^ n - 1) d n):=by
   show _=_;rw[Zw,YZ (show ZA r0 r1 r2 r3 S d=0 from M),PL,US,A1]
  have Du:Hid (ZA r0 r1 r2 r3 S d=0):=M;have Hd:=E7.ext O;clear F Hs Hr Dm Q2 heq M;generalize (2:Int) ^ n - 1=st at C3 K HV;generalize atF (cvS r0 r1 r2 r3 (S.map Ze)) st d n=V at K HV;obtain⟨va,vb⟩:=V;have x0:=Z0 z 0;have x1:=Z0 z 1;have x2:=Z0 z 2;have x3:=Z0 z 3;have x4:=Z0 z 4;have x5:=Z0 z 5;simp only[YC,YA,YB]at x0 x1 x2 x3 x4 x5;have c0:=ZQ x0;have c1:=ZQ x1;have c2:=ZQ x2;have c3:=ZQ x3;have c4:=ZQ x4;have c5:=ZQ x5;refine Z9 5 OB ?_;refine ZS [0,1,3] OB OB ?_;simp only[ZR,YB,YA,YK,YJ]
  repeat (go_big_quiet_step (fail))
  refine XI ?_;refine Z4 2 (f:=70) (args:= #[NJ #[r0,r1,r2,r3,Z base n cap,Z (I B) n n]]) (v:= U J st) OB rfl OB rfl (λW=>by simp[go_sem,NU,Act.eval]) (λW _=>C3 _ W) ?_;go_simp;refine Z4 4 (f:=69) (args:= #[NJ #[r0,r1,r2,r3,Z base n cap,Z (I B) n n],st,d]) (v:= NJ #[va,vb]) OB rfl OB rfl (λW=>by simp[go_sem,NU,Act.eval]) (λW y=>K W (Hd.ext y) (hC.ext y)) ?_;go_simp;refine Vk 2 OB (λW y=> ?_);simp only[UD,VZ];replace C:=y.get C;have Cl:=O.trans y;clear x0 x1 x2 x3 x4 x5 c0 c1 c2 c3 c4 c5 z u0 u1 v0 v1 hC Hd C3 K O y;have u0:=Z0 C 0;have u1:=Z0 C 1;have v0:=Z8 C 0;have v1:=Z8 C 1;simp only[YC,YA,YB]at u0 u1;go_wp2_with fail;refine Vm ?_;go_wp2_with fail;refine VE (v:= .tuple #[NJ #[.int J (Zw r0 r1 r2 r3 S d).1,.int J (Zw r0 r1 r2 r3 S d).2],U J (ZA r0 r1 r2 r3 S d)]) ((MW rfl _ _ _).trans ?_) rfl ⟨rfl,(Cl.setCell _ _ OD).setCell _ _ OD⟩
  have hq:=Zc (set_pair C (U J va) (U J vb));rw[HV.out,Du.out];simp[go_sem,hq.1,hq.2.1]
def Tf(m k:Int):Int:=if -99999<=m/\m<=99999/\0<=k/\k<=99999 then 0 else 1
def lv(f d:Nat)(m k:Int)(w:NL)(g:w.cell? ⟨f,0,NB⟩=I (U J m))(h:w.cell? ⟨d,0,NB⟩=I (U J k)):
 NW prog 71 #[NI (I f),NI (I d)] w (OI (U J (Tf m k)) w):=by
 go_enter fk Tryz.func71,Tryz.ntmps71;go_wp2_with (first|go_at_call 65;refine(WK _ _ _ _).q ?_|go_at_call 64;refine(PU _ _ _).q ?_)
 all_goals
  go_ret;refine⟨Tk ?_,Ext.rfl' _⟩;simp only[Tf];simp_all
  try omega
def Uy(a b:Int):Int:=if b<a then 7 else 0
def pv(f d:Nat)(m k:Int)(w:NL)(g:w.cell? ⟨f,0,NB⟩=I (U J m))(h:w.cell? ⟨d,0,NB⟩=I (U J k)):
 NW prog 73 #[NI (I f),NI (I d)] w (OI (U J (Uy m k)) w):=by
 go_enter fk Tryz.func73,Tryz.ntmps73;go_wp2_with (first|go_at_call 64;refine(PU _ _ _).q ?_)
 all_goals
  go_ret;refine⟨Tk ?_,Ext.rfl' _⟩;simp only[Uy];simp_all
  try omega
variable [Tw]
@[go_sem] def eq48 (a b c d:Int) (w:NL):(Op.equalIn 10000 49 (NJ #[a,b]) (NJ #[c,d])).run gp w= .ok (a==c&&b==d) w:=by
  have u3:gp.underlying 3=I (.int J):=(underlying_eq 3).trans Tryz.underlying3;have f:=Tryz.isAgg3;have f:=Tryz.sizeOf3;have g:gp.underlying 49=I (.struct (gp.fieldsOf 49)):=OB
  have f:gp.stoodInHeld 49=ND:=OB
  rw[show(10000:Nat)=9999+1 from rfl,RA w 9999 49 _ _ g f];simp only[Program.fieldsOf,underlying_eq,Tryz.underlying49];go_simp;by_cases g:a=c<;>by_cases f:b=d<;>simp[g,f]
@[go_sem] def guard48 (op:BinOp) (p q:Operand) (d f:Array NM) (w:NL):(eqGuard op 49 p q (.agg d) (.agg f)).run gp w= .ok () w:=RO w op 49 p q d f OB
end
section
open Go Go.Nk Go.RowKit
def bl(x:Nat):List Nat:=(List.range 8).filter λi=>x.testBit i
def e1(x:Int):Int:=IntKind.u64.wrap (bits .and .u64 (x / 2) 6148914691236517205+bits .and .u64 x 6148914691236517205)
def e2(x:Int):Int:=IntKind.u64.wrap (bits .and .u64 (x / 4) 3689348814741910323+bits .and .u64 x 3689348814741910323)
def e3(x:Int):Int:=bits .and .u64 (IntKind.u64.wrap (x / 16+x)) 1085102592571150095
def e4(d x:Int):Int:=IntKind.u64.wrap (x+x / d)
def e7(x:Int):Int:=bits .and J (wrap64 x) 127
def FK(x:Int):Int:=e7 (e4 4294967296 (e4 65536 (e4 256 (e3 (e2 (e1 x))))))
def onesE_all:(List.range 256).all (λk=>FK (k:Int)==((bl k).length:Int))=NC:=OB
def lz{k:Nat}(d:k<256):FK (k:Int)=((bl k).length:Int):=by
 have:=YL.1 onesE_all k (YU.2 d);simpa using this
def qA(k:Nat)(f:k<256)(w:NL):NW prog 144 #[U .u64 k] w (OJ (.int J (bl k).length) w):=by
 have g:(0:Int)<=(k:Int):=OA
 have d:=lz f;generalize (bl k).length=m at d⊢;generalize (k:Int)=x at g d⊢;have H:Hid (FK x=m):=d;clear d;go_enter fk Tryz.func144,Tryz.ntmps144;go_wp2;go_ret;exact⟨Tk H,rfl⟩
def dbP:Nat->Nat
 |0=>0
 |1=>1
 |2=>3
 |3=>7
 |4=>15
 |5=>31
 |6=>63
 |_=>62
def Deb(w:NL):Prop:=∀i,i<8->w.cell? ⟨6,dbP i,NB⟩=I (U .u8 i)
def Deb.ext(h:Deb w)(e:Ext w w'):Deb w':=λi hi=>e.cellS (h i hi)
def tz(k:Nat):Nat:=(bl k).headD 0
def tz_all:(List.range 256).all (λk=>k==0||(decide (tz k<8)&&IntKind.u64.wrap (bits .and .u64 (k:Int) (IntKind.u64.wrap (-(k:Int)))*285870213051353865) / 288230376151711744==(dbP (tz k):Int)))=NC:=OB
def tz_ok{k:Nat}(d:k<256)(f:0<k):tz k<8/\IntKind.u64.wrap (bits .and .u64 (k:Int) (IntKind.u64.wrap (-(k:Int)))*285870213051353865) / 288230376151711744=(dbP (tz k):Int):=by
 have:=YL.1 tz_all k (YU.2 d);simp only[UF,YG,XU,XE]at this;rcases this with h|h
 .omega
 .exact h
def dbP_lt:∀i,i<8->dbP i<64:=OC
def ie(x q t:Int)(w:NL)(A:0<=x)(h:(x==0)=ND)(j:w.cell? ⟨6,q.toNat,NB⟩=I (U .u8 t))(f:0<=t)(y:t<8)
 (g:IntKind.u64.wrap (bits .and .u64 x (IntKind.u64.wrap (-x))*285870213051353865) / 288230376151711744=q)(z:0<=q)(d:q<64):NW prog 181 #[U .u64 x] w (OJ (U J t) w):=by
 go_enter fk Tryz.func181,Tryz.ntmps181;go_wp2;go_ret;exact⟨rfl,rfl⟩
def ex(k:Nat)(h:k<256)(x:0<k)(w:NL)(y:Deb w):NW prog 181 #[U .u64 k] w (OJ (U J (tz k)) w):=by
 obtain⟨d,g⟩:=tz_ok h x;have f:=y _ d;have j:=dbP_lt _ d;generalize dbP (tz k)=q at g f j;generalize tz k=t at d f⊢;exact ie k q t w OA (by simp;omega) f OA OA g OA OA
def cA(k:Nat)(d:k<256)(w:NL):NW prog 115 #[U .u64 k] w (OJ (.int J (bl k).length) w):=by
 go_enter fk Tryz.func115,Tryz.ntmps115;go_wp2_with (first|go_at_call 144;refine(qA k d _).q ?_);go_ret;exact⟨rfl,rfl⟩
def oQ(k:Nat)(f:k<256)(g:0<k)(w:NL)(d:Deb w):NW prog 145 #[U .u64 k] w (OJ (U J (tz k)) w):=by
 go_enter fk Tryz.func145,Tryz.ntmps145;go_wp2_with (first|go_at_call 181;refine(ex k f g _ d).q ?_);go_ret;exact⟨rfl,rfl⟩
def Sq(x y:Int):Bool:=(bits .xor J x y !=0)&&(bits .and J x (bits .and J (bits .xor J x y) (wrap64 (-bits .xor J x y))) !=0)
def iv(x y:Int)(f:0<=x/\x<256)(d:0<=y/\y<256)(w:NL):NW prog 116 #[x,y] w (OJ (.bool (Sq x y)) w):=by
 go_enter fk Tryz.func116,Tryz.ntmps116;go_wp2;all_goals go_ret
 all_goals
  refine⟨?_,rfl⟩;rename_i h;rw[show∀x y:NM,Ending.returned x=Ending.returned y↔x=y from λx y=>by simp];simp[Sq,h]
end
section
open Go Go.Nk Go.RowKit
variable [Tw]
def Meas(w:NL):Prop:=∀i,i<6->w.cell? ⟨2,i,NB⟩=I (.func (.func (279+i)) #[] #[])
def Meas.ext(h:Meas w)(e:Ext w w'):Meas w':=λi hi=>e.cellS (h i hi)
def au(w:NL):(Instr.index 197 (NJ #[.func (.func 279) #[] #[],.func (.func 280) #[] #[],.func (.func 281) #[] #[],.func (.func 282) #[] #[],.func (.func 283) #[] #[],.func (.func 284) #[] #[]]) (U J 0)).run gp w= .ok (NJ #[.func (.func 279) #[] #[],.func (.func 280) #[] #[]]) w:=by
 unfold Instr.index Go.part;simp[go_sem,run_asAgg,asIntOf]
def BB(w:NL):(Instr.index 197 (NJ #[.func (.func 279) #[] #[],.func (.func 280) #[] #[],.func (.func 281) #[] #[],.func (.func 282) #[] #[],.func (.func 283) #[] #[],.func (.func 284) #[] #[]]) (U J 1)).run gp w= .ok (NJ #[.func (.func 281) #[] #[],.func (.func 282) #[] #[]]) w:=by
 unfold Instr.index Go.part;simp[go_sem,run_asAgg,asIntOf]
def AJ(w:NL):(Instr.index 197 (NJ #[.func (.func 279) #[] #[],.func (.func 280) #[] #[],.func (.func 281) #[] #[],.func (.func 282) #[] #[],.func (.func 283) #[] #[],.func (.func 284) #[] #[]]) (U J 2)).run gp w= .ok (NJ #[.func (.func 283) #[] #[],.func (.func 284) #[] #[]]) w:=by
 unfold Instr.index Go.part;simp[go_sem,run_asAgg,asIntOf]
def aG(b off:Nat)(w:NL):NW gp 279 #[NI (I ⟨b,off,NB⟩)] w (OJ (NI (I ⟨b,off+1,NB⟩)) w):=by
 go_enter fk Tryz.func279,Tryz.ntmps279;go_wp2;go_ret;exact⟨rfl,rfl⟩
def BS(b off:Nat)(w:NL):NW gp 281 #[NI (I ⟨b,off,NB⟩)] w (OJ (NI (I ⟨b,off+3,NB⟩)) w):=by
 go_enter fk Tryz.func281,Tryz.ntmps281;go_wp2;go_ret;exact⟨rfl,rfl⟩
def ak(b off:Nat)(w:NL):NW gp 283 #[NI (I ⟨b,off,NB⟩)] w (OJ (NI (I ⟨b,off+5,NB⟩)) w):=by
 go_enter fk Tryz.func283,Tryz.ntmps283;go_wp2;go_ret;exact⟨rfl,rfl⟩
def dH(a b c m:Int)(w:NL):NW gp 280 #[NJ #[a,b,c,m]] w (OI (U J a) w):=by
 go_enter fk Tryz.func280,Tryz.ntmps280;go_wp2;go_ret;exact⟨rfl,(Ext.rfl' w).alloc _⟩
def AO(a b c m:Int)(w:NL):NW gp 282 #[NJ #[a,b,c,m]] w (OI (U J b) w):=by
 go_enter fk Tryz.func282,Tryz.ntmps282;go_wp2;go_ret;exact⟨rfl,(Ext.rfl' w).alloc _⟩
def aL(a b c m:Int)(w:NL):NW gp 284 #[NJ #[a,b,c,m]] w (OI (U J c) w):=by
 go_enter fk Tryz.func284,Tryz.ntmps284;go_wp2;go_ret;exact⟨rfl,(Ext.rfl' w).alloc _⟩
def okA(n hi:Int):Bool:=decide (0<=n/\n<=hi)
def W4(a b c m:Int):Int:=if okA a 9999&&okA b 9999&&okA c 9999&&decide (2<=m/\m<=4)then 0 else 1
def alw(a b c:Int):Nat->Int
 |0=>a
 |1=>b
 |_=>c
def ZK{b:Int}(h:a=b):Ending.returned (U J a)=Ending.returned (U J b):=by rw[h]
def mE(a b c m:Int)(base:Option NP)(n cap:Nat)(w:NL)(d:Meas w):NW gp 78 #[NJ #[a,b,c,m,Z base n cap]] w (OI (U J (W4 a b c m)) w):=by
 have y:=d 0 OA;have T:=d 1 OA;have L:=d 2 OA;have K:=d 3 OA;have O:=d 4 OA;have V:=d 5 OA;simp only[Nat.reduceAdd]at y T L K O V;have hl:2<w.heap.size:=by
  unfold World.cell? at y;split at y
  .rename_i hh;exact Z5 hh
  .cases y
 go_enter fk Tryz.func78,Tryz.ntmps78;go_wp2;go_loopw [6] (λv wr=>∃i:Nat,i<=3/\v= U J i/\wr.heap[w.heap.size]? =I (NH #[a,b,c,m,Z base n cap] 117)/\Ext w wr/\∀j,j<i->okA (alw a b c j) 9999=NC) (λv _=>3 - (intOf v).toNat)
 case atStart=>exact⟨0,XL _,rfl,by rw[Z3,YZ rfl],(Ext.rfl' w).alloc _,λj X=>by omega⟩
 case round=>
  obtain⟨i,hi,rfl,g,M,f⟩:=hrel;clear y T L K O V d;have q0:=Z0 g 0;have q1:=Z0 g 1;have q2:=Z0 g 2;have q3:=Z0 g 3;have q4:=Z0 g 4;simp only[YC,YA,YB]at q0 q1 q2 q3 q4;by_cases Ao:i=3
  .subst Ao;have F:=f 0 OA;have z:=f 1 OA;have x:=f 2 OA;clear f;simp only[alw]at F z x;have H:Hid (W4 a b c m=if decide (2<=m/\m<=4)then 0 else 1):=by show W4 a b c m=_;simp only[W4,F,z,x,TS]
   clear F z x;go_wp2_with (first|go_at_call 65;refine(WK _ _ _ _).q ?_|go_at_call 64;refine(PU _ _ _).q ?_)
   all_goals
    go_ret;refine⟨?_,M⟩;rw[H];simp
    try omega
  .have A5:i<3:=OA
   have He:w.heap.size<wr.heap.size:=Z5 g;obtain rfl|rfl|rfl:i=0\/i=1\/i=2:=OA
   all_goals
    have D8:=au;have Is:=BB;have G6:=AJ
    go_wp2_with (first|go_at_call 280;refine(dH _ _ _ _ _).r λY C=> ?_|go_at_call 282;refine(AO _ _ _ _ _).r λY C=> ?_|go_at_call 284;refine(aL _ _ _ _ _).r λY C=> ?_|go_at_call 65;refine(WK _ _ _ _).q ?_)
    all_goals have A:=(M.alloc _).trans C
    all_goals have E:=C.get (((Ext.rfl' wr).alloc _).get g)
    .rename_i hb;go_ret;refine⟨ZK (a:=1) ?_,A⟩;simp at hb;rw[W4,XB];simp[okA];omega
    .rename_i hb;simp at hb;have step:∀k:Nat,(∀j,j<k->okA (alw a b c j) 9999=NC)->okA (alw a b c k) 9999=NC->∀j,j<k+1->okA (alw a b c j) 9999=NC:=by
      intro k z x j X;rcases TL.1 X with h|rfl
      .exact z j h
      .exact x
     first|exact⟨⟨1,OA,rfl,E,A,step 0 f (by simp only[okA,alw];simp;omega)⟩,by simp[intOf]⟩|exact⟨⟨2,OA,rfl,E,A,step 1 f (by simp only[okA,alw];simp;omega)⟩,by simp[intOf]⟩|exact⟨⟨3,OA,rfl,E,A,step 2 f (by simp only[okA,alw];simp;omega)⟩,by simp[intOf]⟩
def WY(c:Int):Bool:=decide (97<=c/\c<=122)
def S0(c:Int):Bool:=decide (48<=c/\c<=57)
def ZM(c:UInt8):Bool:= !WY (c.toNat:Int)&& !S0 (c.toNat:Int)
def av(c:UInt8)(w:NL):NW gp 147 #[U .u8 c.toNat] w (OJ (.bool (ZM c)) w):=by
 have f:(0:Int)<=(c.toNat:Int):=OA
 have d:(c.toNat:Int)<256:=by have:=c.toNat_lt;omega
 unfold ZM WY S0;generalize (c.toNat:Int)=x at f d⊢;by_cases d:97<=x/\x<=122
 .have hd:decide (97<=x/\x<=122)=NC:=VB d;rw[hd];go_enter fk Tryz.func147,Tryz.ntmps147;go_wp2_with (first|go_at_call 65;refine(WK _ _ _ _).q ?_);go_ret;exact⟨rfl,rfl⟩
 .have hd:decide (97<=x/\x<=122)=ND:=XV d;rw[hd];go_enter fk Tryz.func147,Tryz.ntmps147;go_wp2_with (first|go_at_call 65;refine(WK _ _ _ _).q ?_);go_ret;exact⟨OD,rfl⟩
def MA(l:List UInt8):Int:=match l.findIdx? ZM with
 |some i=>(i:Int)
 |none=> -1
def iC(b n cap:Nat)(l:List UInt8)(w:NL)(K:l.length=n)(M:n<=12)(C:∀i x,l[i]? =I x->w.cell? ⟨b,i,NB⟩=I (U .u8 x.toNat)):
 NW gp 182 #[Z (I b) n cap,.func (.func 147) #[] #[]] w (OJ (U J (MA l)) w):=by
 go_enter fk Tryz.func182,Tryz.ntmps182;go_wp2
 go_loop [8] (λv=>∃i:Nat,i<=n/\v= U J i/\∀j x,j<i->l[j]? =I x->ZM x=ND) (λv=>n - (intOf v).toNat)
 case atStart=>exact⟨0,XL _,rfl,λj x d=>by omega⟩
 case round=>
  obtain⟨i,hi,rfl,z⟩:=hrel;by_cases F:i=n
  .subst F;go_wp2;go_ret;refine⟨ZK ?_,rfl⟩;have:l.findIdx? ZM=NB:=by
    rw[List.findIdx?_eq_none_iff];intro x f;obtain⟨j,d,g⟩:=List.mem_iff_getElem.1 f;exact z j x OA (by rw[<-g];exact YH d)
   rw[MA,this]
  .obtain⟨x,f⟩:∃x,l[i]? =I x:=⟨_,YH OA⟩;have L:=C i x f;have O:(i:Int)<(n:Int):=OA
   have H:Hid (l[i]? =I x):=f;clear f C;cases hb:ZM x
   .have Ki:=λw=>av x w
    rw[hb]at Ki;go_wp2_with (first|go_at_call 147;refine(Ki _).q ?_)
    go_round
    case rel=>
     refine⟨i+1,OA,by push_cast;rfl,λj y d A=> ?_⟩;rcases TL.1 d with h|rfl
     .exact z j y h A
     .have:=H.out.symm.trans A;simp at this;rw[<-this];exact hb
    case measure=>simp[intOf];omega
   .have Ki:=λw=>av x w
    rw[hb]at Ki;go_wp2_with (first|go_at_call 147;refine(Ki _).q ?_);go_ret;refine⟨ZK ?_,rfl⟩;have:l.findIdx? ZM=I i:=by
     rw[List.findIdx?_eq_some_iff_getElem];obtain⟨E,g⟩:=YI.1 H.out;refine⟨E,by rw[g];exact hb,λj d=> ?_⟩;rw[z j l[j] d (YH _)];simp
    rw[MA,this]
def nW(b n cap:Nat)(l:List UInt8)(w:NL)(g:l.length=n)(z:n<=12)(j:∀i x,l[i]? =I x->w.cell? ⟨b,i,NB⟩=I (U .u8 x.toNat)):
 NW gp 146 #[Z (I b) n cap,.func (.func 147) #[] #[]] w (OJ (.bool (l.any ZM)) w):=by
 have d:=iC b n cap l w g z j;have f:l.any ZM=decide (0<=MA l):=by
  unfold MA;cases h:l.findIdx? ZM with
  |none=>
   rw[List.findIdx?_eq_none_iff]at h;simp;exact h
  |some i=>
   rw[List.findIdx?_eq_some_iff_getElem]at h;obtain⟨d,f,_⟩:=h;simp;exact⟨_,List.getElem_mem d,f⟩
 rw[f];generalize MA l=y at d⊢;go_enter fk Tryz.func146,Tryz.ntmps146;go_wp2_with (first|go_at_call 182;refine d.q ?_);go_ret;exact⟨rfl,rfl⟩
def Xm(s:ByteArray):Bool:=decide (1<=s.size/\s.size<=12)&&(match s.data.toList with|[]=>ND|c::_=>WY (c.toNat:Int))&& !s.data.toList.any ZM
def BN(s:ByteArray)(h:0<s.size):(match s.data.toList with|[]=>ND|c::_=>WY (c.toNat:Int))=WY ((s[0]).toNat:Int):=by
 have e:s.data.toList[0]? =I s[0]:=by
  rw[Array.getElem?_toList];exact YN h
 cases hl:s.data.toList with
 |nil=>rw[hl]at e;cases e
 |cons c t=>rw[hl]at e;simp at e;rw[e]
def u9:gp.underlying 9=I .string:=(underlying_eq 9).trans Tryz.underlying9
def u195:gp.underlying 202=I (.slice 5):=(underlying_eq 202).trans Tryz.underlying202
def u5:gp.underlying 5=I (.int .u8):=(underlying_eq 5).trans Tryz.underlying5
def aD(w:NL)(e:NT)(s:ByteArray):Ext w (Lib.bytesWorld w e s):=
 ⟨by rw[Lib.bytesWorld_size];omega,λb d=>Lib.bytesWorld_at_old w e s b d,by simp[Lib.bytesWorld,World.freeze,World.alloc,World.drew,-World.alloc_eq,-World.drew_eq],by simp[Lib.bytesWorld,World.freeze,World.alloc,World.drew,-World.alloc_eq,-World.drew_eq],by simp[Lib.bytesWorld,World.freeze,World.alloc,World.drew,-World.alloc_eq,-World.drew_eq]⟩
def eB(s:ByteArray)(w:NL)(K:s.size<=maxLen):NW gp 118 #[.string s] w (OI (.bool (Xm s)) w):=by
 unfold maxLen at K;by_cases f:1<=s.size/\s.size<=12
 .have Dv:0<s.size:=OA
  have d:Xm s=(WY (s[0].toNat:Int)&& !s.data.toList.any ZM):=by
   rw[Xm,BN s Dv,VB f,TS]
  rw[d];clear d;have L:(0:Int)<=(s[0].toNat:Int):=OA
  have M:(s[0].toNat:Int)<256:=by have:=s[0].toNat_lt;omega
  have y:(1:Int)<=(s.size:Int):=OA
  have j:(s.size:Int)<=12:=OA
  have F:=λw=>Lib.run_convert_string_bytes (P:=gp) w 9 202 5 s u9 u195 u5
  have h:=fun(w:NL) cap=>nW w.heap.size s.size cap s.data.toList (Lib.bytesWorld w 5 s) (by rw[RH];rfl) f.2 (by
   intro i x E;have hi:=(YI.1 E).1;rw[RH]at hi;rw[Lib.bytesWorld_cell w 5 s i hi,List.getD_eq_getElem?_getD,E];rfl)
  clear f;generalize s.data.toList.any ZM=q at h⊢;have A:=λw=>WK (s.size:Int) 1 12 w
  rw[VB (show(1:Int)<=s.size/\(s.size:Int)<=12 from⟨y,j⟩)]at A;have z:=λw=>WK (s[0].toNat:Int) 97 122 w
  unfold WY;cases hl:decide ((97:Int)<=(s[0].toNat:Int)/\(s[0].toNat:Int)<=122)
  all_goals
   rw[hl]at z;clear hl y j;go_enter fk Tryz.func118,Tryz.ntmps118
   go_wp2_with (first|go_at_call 65;(with_reducible refine(A _).q ?_)|go_at_call 65;(with_reducible refine(z _).q ?_)|go_at_call 146;refine(h _ _).q ?_)
   go_ret
   first|exact⟨rfl,Ext.rfl' _⟩|exact⟨OD,aD _ _ _⟩
 .have d:Xm s=ND:=by rw[Xm,XV f];rfl
  rw[d];have g:decide (1<=(s.size:Int)/\(s.size:Int)<=12)=ND:=XV OA;have C:=λw=>WK (s.size:Int) 1 12 w
  rw[g]at C;clear d g;go_enter fk Tryz.func118,Tryz.ntmps118
  go_wp2_with (first|go_at_call 65;refine(C _).q ?_)
  go_ret;exact⟨rfl,Ext.rfl' _⟩
end
end Go.Proofs.Tryq
section
namespace Go.Nk
open Go Go.MapKept
open Go.Maps (Keyed)
open Go.ChangeMaps (setBlock)
def MapAt(P:NO)(k:NT)(w:NL)(b:Nat)(G:NM->Option NM):Prop:=
 ∃f d,w.heap[b]? =I (.map f d)/\(∀e∈f.toList,∃l,keyOf P k e.key=I l)/\f.toList.Pairwise (λx y=>x.key≠y.key)/\(∀d v,G d=I v->∃e∈f.toList,e.key=d/\e.val=v)/\∀e∈f.toList,G e.key=I e.val
variable {k:NT}{G:NM->Option NM}
def MapAt.made(P:NO)(k:NT)(w:NL):MapAt P k (w.alloc (.map #[] 0)) w.heap.size (λ_=>NB):=
 ⟨#[],0,by have e:(w.alloc (.map #[] 0)).heap=w.heap.push (.map #[] 0):=rfl
           rw[e];simp,OD,OD,OD,OD⟩
def MapAt.lookup(h:MapAt P k w b G)(K:Keyed P k)(A:P.underlying t=I (.map k e)){z:NM}(T:(zeroValue e).run P w= .ok z w){d:NM}{kl:Lit}(f:keyOf P k d=I kl)(c:Bool):
 (Instr.lookup t (.map (I b)) d c).run P w= .ok (if c then .tuple #[(G d).getD z,.bool (G d).isSome]else(G d).getD z) w:=by
 obtain⟨V,_,C,M,_,O,F⟩:=h;rcases K.find w f V.toList M with⟨g,L⟩|⟨j,y,g,Y,he⟩
 .have hG:G d=NB:=by
   cases hg:G d with
   |none=>rfl
   |some v=>
    obtain⟨x,X,E,_⟩:=O d v hg;exact absurd E (L x X)
  rw[hG];simp[Instr.lookup,run_underlying A,QA C,K.check w _ f,g,T,Result.andThen]
 .have hG:G d=I y.val:=by rw[<-he];exact F y (YQ Y)
  rw[hG];simp[Instr.lookup,run_underlying A,QA C,K.check w _ f,g,Result.andThen]
open Classical in
def MapAt.update(h:MapAt P k w b G)(K:Keyed P k)(ht:P.underlying t=I (.map k e)){d:NM}{kl:Lit}(L:keyOf P k d=I kl)(val:NM):
 ∃o,(Instr.mapUpdate t (.map (I b)) d val).run P w= .ok () (setBlock w b o)/\MapAt P k (setBlock w b o) b (λx=>if x=d then I val else G x):=by
 obtain⟨A,f,T,hk,hp,h1,h2⟩:=h;have A5:b<w.heap.size:=(YF.1 T).1;have Kj:∀o:Obj,(setBlock w b o).heap[b]? =I o:=λo=>by simp[setBlock,Array.getElem?_setIfInBounds,A5]
 rcases K.find w L A.toList hk with⟨hf,Ab⟩|⟨j,F,hf,hj,O⟩
 .refine⟨.map (A.push ⟨d,val,f⟩) (f+1),?_,A.push ⟨d,val,f⟩,f+1,Kj _,?_,?_,?_,?_⟩
  .simp[Instr.mapUpdate,run_underlying ht,QA T,K.check w ND L,hf,MapKept.run_setObj_map _ T,Result.andThen,setBlock]
  .intro x g;simp only[QY,VI,XP]at g;rcases g with g|rfl
   .exact hk x g
   .exact⟨_,L⟩
  .rw[QY,RB];exact⟨hp,OD,λx g y hy=>by simp at hy;subst hy;exact Ab x g⟩
  .intro C v E;dsimp only at E;split at E
   .rename_i z;cases E;exact⟨⟨d,val,f⟩,OD,z.symm,rfl⟩
   .obtain⟨x,g,C8,Av⟩:=h1 C v E;exact⟨x,by simp;exact .inl (by simpa using g),C8,Av⟩
  .intro x g;simp only[QY,VI,XP]at g;rcases g with g|rfl
   .dsimp only;rw[XB (Ab x g)];exact h2 x g
   .dsimp only;rw[YZ rfl]
 .have hj':A[j]? =I F:=by rw[<-Array.getElem?_toList];exact hj
  have Kk:j<A.size:=(YF.1 hj').1;have hl:(A.modify j λx=>{x with key:=d,val:=val}).toList=A.toList.set j {F with key:=d,val:=val}:=by
   apply List.ext_getElem?;intro i;rw[Array.getElem?_toList,Array.getElem?_modify,List.getElem?_set];by_cases Mf:j=i
   .subst Mf;rw[YZ rfl,YZ rfl,hj',YZ (by simpa using Kk)];rfl
   .rw[XB Mf,XB Mf,Array.getElem?_toList]
  have Cp:∀x∈A.toList.set j {F with key:=d,val:=val},x={F with key:=d,val:=val}\/(x∈A.toList/\x.key≠d):=by
   intro x g;obtain⟨i,hi,M⟩:=List.mem_iff_getElem.1 g;rw[List.getElem_set]at M;split at M
   .exact .inl M.symm
   .rename_i Mf;simp only[List.length_set]at hi;refine .inr ⟨by rw[<-M];exact List.getElem_mem _,λz=> ?_⟩;have X:j<A.toList.length:=(by simpa using Kk);have V:A.toList[j]=F:=by
     have:=YH X;rw[hj]at this;exact(YT this).symm
    rcases VC i j with Hk|Ha
    .exact(RF.1 hp i j hi X Hk) (by rw[M,z,V,O])
    .exact(RF.1 hp j i X hi OA) (by rw[M,z,V,O])
  refine⟨.map (A.modify j λx=>{x with key:=d,val:=val}) f,?_,_,f,Kj _,?_,?_,?_,?_⟩
  .simp[Instr.mapUpdate,run_underlying ht,QA T,K.check w ND L,hf,MapKept.run_setObj_map _ T,Result.andThen,setBlock,hj',O,K.stays w L]
  .rw[hl];intro x g;rcases Cp x g with rfl|⟨g,_⟩
   .exact⟨_,L⟩
   .exact hk x g
  .rw[hl,RF];intro i1 i2 Is G6 Hk;simp only[List.length_set]at Is G6;have X:j<A.toList.length:=by simpa using Kk
   have V:A.toList[j]=F:=by
    have:=YH X;rw[hj]at this;exact(YT this).symm
   rw[List.getElem_set,List.getElem_set];have Y:=RF.1 hp i1 i2 Is G6 Hk;split
   .rename_i h1';subst h1';rw[XB OA];rw[V,O]at Y;exact Y
   .split
    .rename_i h2';subst h2';rw[V,O]at Y;exact Y
    .exact Y
  .rw[hl];intro C v E;dsimp only at E;split at E
   .rename_i z;cases E;exact⟨{F with key:=d,val:=val},List.mem_iff_getElem?.2 ⟨j,by rw[List.getElem?_set];simp[Kk]⟩,z.symm,rfl⟩
   .rename_i z;obtain⟨x,g,C8,Av⟩:=h1 C v E;obtain⟨i,hi⟩:=List.mem_iff_getElem?.1 g;refine⟨x,List.mem_iff_getElem?.2 ⟨i,?_⟩,C8,Av⟩;rw[List.getElem?_set,XB ?_]
    .exact hi
    .rintro rfl;rw[hj]at hi;cases hi;exact z (C8.symm.trans O)
  .rw[hl];intro x g;rcases Cp x g with rfl|⟨g,Ab⟩
   .dsimp only;rw[YZ rfl]
   .dsimp only;rw[XB Ab];exact h2 x g
def MapAt.keep(h:MapAt P k w b G)(e:w'.heap[b]? =w.heap[b]?):MapAt P k w' b G:=by
 obtain⟨f,d,g,h⟩:=h;exact⟨f,d,e.trans g,h⟩
def MapAt.lt(h:MapAt P k w b G):b<w.heap.size:=by
 obtain⟨_,_,d,_⟩:=h;exact(YF.1 d).1
end Go.Nk
namespace Go.Proofs.Tryq
open Go Go.Nk
def Ext.setBlock{w w':NL}(h:Ext w w')(b:Nat)(o:Obj)(f:w.heap.size<=b):Ext w (Go.ChangeMaps.setBlock w' b o):=
 ⟨by simp[Go.ChangeMaps.setBlock];exact h.size,λc d=>by simp only[Go.ChangeMaps.setBlock];rw[YO OA];exact h.old c d,h.tape,h.os,h.output⟩
def L4(h:c≠b)(o:Obj):(Go.ChangeMaps.setBlock w b o).heap[c]? =w.heap[c]? :=by
 simp only[Go.ChangeMaps.setBlock];exact YO (λe=>h e.symm)
def GX(w:NL)(b:Nat)(o:Obj):(Go.ChangeMaps.setBlock w b o).heap.size=w.heap.size:=by simp[Go.ChangeMaps.setBlock]
end Go.Proofs.Tryq
end
namespace Go.Proofs.Tryq
section
open Go Go.Nk Go.RowKit
variable [Tw]
open Go.Maps (Keyed)
structure Sf where
 nm:ByteArray
 a0:Int
 a1:Int
 b0:Int
 b1:Int
 c0:Int
 c1:Int
structure ShaftAt(w:NL)(b off:Nat)(x:Sf):Prop where
 k0:w.cell? ⟨b,off,NB⟩=I (.string x.nm)
 k1:w.cell? ⟨b,off+1,NB⟩=I (U J x.a0)
 k2:w.cell? ⟨b,off+2,NB⟩=I (U J x.a1)
 k3:w.cell? ⟨b,off+3,NB⟩=I (U J x.b0)
 k4:w.cell? ⟨b,off+4,NB⟩=I (U J x.b1)
 k5:w.cell? ⟨b,off+5,NB⟩=I (U J x.c0)
 k6:w.cell? ⟨b,off+6,NB⟩=I (U J x.c1)
def RawA(w:NL)(base:Option NP)(L:List Sf):Prop:=∀(i:Nat)(x:Sf),L[i]? =I x->∃b off,base=I ⟨b,off,NB⟩/\b<w.heap.size/\ShaftAt w b (off+i*7) x/\x.nm.size<=maxLen
def ShaftAt.ext{x:Sf}(h:ShaftAt w b off x)(e:Ext w w'):ShaftAt w' b off x:=
 ⟨e.cellS h.k0,e.cellS h.k1,e.cellS h.k2,e.cellS h.k3,e.cellS h.k4,e.cellS h.k5,e.cellS h.k6⟩
def RawA.ext{w w':NL}{base:Option NP}{L:List Sf}(h:RawA w base L)(e:Ext w w'):RawA w' base L:=by
 intro i x hi;obtain⟨b,off,g,d,j,f⟩:=h i x hi;exact⟨b,off,g,e.lt d,j.ext e,f⟩
def sfC(x:Sf):Array NM:= #[.string x.nm,x.a0,x.a1,x.b0,x.b1,x.c0,x.c1]
def spA(x:Sf):Nat->Int×Int
 |0=>(x.a0,x.a1)
 |1=>(x.b0,x.b1)
 |_=>(x.c0,x.c1)
def ZF(p:Int×Int):Bool:=decide (0<=p.1/\p.1<=p.2/\p.2<=9999)
def WO(x:Sf):Bool:=ZF (spA x 0)&&ZF (spA x 1)&&ZF (spA x 2)
abbrev nmL(x:Sf):List UInt8:=x.nm.data.toList
def shA:List (List UInt8)->List Sf->Int
 |_,[]=>0
 |seen,x::t=>if Xm x.nm=ND then 4 else if nmL x∈seen then 5 else if WO x=ND then 1 else shA (seen++[nmL x]) t
def Zj(L:List Sf):Int:=if 9<L.length then 2 else shA [] L
def gN(l:List (List UInt8)):NM->Option NM
 | .string s=>if s.data.toList∈l then I (.bool NC)else NB
 |_=>NB
def gN_nil:gN []=λ_=>NB:=by
 funext v;cases v<;>simp[gN]
open Classical in
def fI(l:List (List UInt8))(s:ByteArray):(λx=>if x=Value.string s then I (Value.bool NC)else gN l x)=gN (l++[s.data.toList]):=by
 funext v;cases v with
 |string t=>
  by_cases h:t=s
  .subst h;simp[gN]
  .have h2:¬t.data.toList=s.data.toList:=λe=>h (by cases t;cases s;simp at e;subst e;rfl)
   simp[gN,h,h2]
 |_=>simp[gN]
def u175:gp.underlying 198=I (.map 9 4):=(underlying_eq 198).trans Tryz.underlying198
def keyed9:Keyed gp 9:=Go.Maps.string_keyed u9
def z4(w:NL):(zeroValue 4).run gp w= .ok (.bool ND) w:=(run_zeroValue 4 w).trans (Tryz.zeroValue4 w)
def T4{α:Type}{L:List α}{x:α}(h:L[i]? =I x):L.take (i+1)=L.take i++[x]:=by
 rw[VL,h];rfl
def WP{α:Type}{L:List α}{x:α}(h:L[i]? =I x):L.drop i=x::L.drop (i+1):=by
 obtain⟨hi,d⟩:=YI.1 h;rw[VP hi,d]
def eZ(a b c m:Int)(base:Option NP)(n cap:Nat)(L:List Sf)(w:NL)(A1:L.length=n)(hM:Meas w)(hS:RawA w base L):NW gp 79 #[NJ #[a,b,c,m,Z base n cap]] w (OI (U J (Zj L)) w):=by
 by_cases h9:9<L.length
 .have H:Zj L=2:=by rw[Zj,YZ h9]
  rw[H];clear H;have Q3:(9:Int)<(n:Int):=OA
  clear h9;go_enter fk Tryz.func79,Tryz.ntmps79;go_wp2;go_ret;exact⟨rfl,(Ext.rfl' w).alloc _⟩
 .have H:Hid (Zj L=shA ((L.take 0).map nmL) (L.drop 0)):=by show Zj L=_;rw[Zj,XB h9];rfl
  have Q3:(n:Int)<=9:=OA
  clear h9;have Hf:= @run_makeMap gp;go_enter fk Tryz.func79,Tryz.ntmps79;go_wp2;have K:=MapAt.made gp 9 (w.alloc (NH #[a,b,c,m,Z base n cap] 117));rw[<-gN_nil,Z2]at K;have Br:=((Ext.rfl' w).alloc (NH #[a,b,c,m,Z base n cap] 117)).alloc (.map #[] 0);go_loopw [18] (λv wr=>∃i:Nat,i<=n/\v= U J i/\wr.heap[w.heap.size]? =I (NH #[a,b,c,m,Z base n cap] 117)/\Ext w wr/\MapAt gp 9 wr (w.heap.size+1) (gN ((L.take i).map nmL))/\Hid (Zj L=shA ((L.take i).map nmL) (L.drop i))) (λv _=>n - (intOf v).toNat)
  case atStart=>exact⟨0,XL _,rfl,by simp only[Z3,Z2];rw[XB OA,YZ trivial],Br,by simpa using K,H⟩
  case round=>
   obtain⟨i,hi,rfl,hr,hE,Dy,X⟩:=hrel;clear K Br H Hf;by_cases Ao:i=n
   .subst Ao;have z:Hid (Zj L=0):=(by show Zj L=0;rw[X.out,<-A1,UW];rfl);clear X;go_wp2;go_ret;exact⟨ZK (a:=0) z.out.symm,hE⟩
   .have A5:i<n:=OA;obtain⟨x,E⟩:∃x,L[i]? =I x:=⟨_,YH OA⟩;have T:Hid (Zj L=if Xm x.nm=ND then 4 else if nmL x∈(L.take i).map nmL then 5 else if WO x=ND then 1 else shA ((L.take (i+1)).map nmL) (L.drop (i+1))):=by
     show Zj L=_;rw[X.out,WP E,shA,T4 E,QL];rfl
    obtain⟨b',off,rfl,A,⟨k0,k1,k2,k3,k4,k5,k6⟩,Jh⟩:=(hS.ext hE) i x E;have Tl:=hM.ext hE;have Hj:=λw=>eB x.nm w Jh
    have Tn:keyOf gp 9 (.string x.nm)=I _:=Go.WideMaps.keyOf_string_mk u9 Jh
    have Hl:∀d,Ext (wr.alloc (NH #[.string x.nm,x.a0,x.a1,x.b0,x.b1,x.c0,x.c1] 51)) d->d.heap[wr.heap.size]? =I (NH #[.string x.nm,x.a0,x.a1,x.b0,x.b1,x.c0,x.c1] 51)/\Ext w d/\d.heap[w.heap.size]? =I (NH #[a,b,c,m,Z (I ⟨b',off,NB⟩) n cap] 117)/\MapAt gp 9 d (w.heap.size+1) (gN ((L.take i).map nmL)):=λd h=>
     ⟨h.get ((Z3 _ _ _).trans (YZ rfl)),(hE.alloc _).trans h,h.get (((Ext.rfl' wr).alloc _).get hr),Dy.keep (((Ext.rfl' wr).alloc _ |>.trans h).old _ Dy.lt)⟩
    cases hnb:Xm x.nm
    .have B6:Hid (Zj L=4):=(by show Zj L=4;rw[T.out,YZ hnb]);rw[hnb]at Hj;clear hnb T X E
     go_wp2_with (first|(go_at_call 118;refine(Hj _).r λd A2=> ?_;obtain⟨C8,O,_,_⟩:=Hl _ A2))
     go_ret;exact⟨ZK (a:=4) B6.out.symm,O⟩
    .rw[hnb]at Hj;by_cases Y:nmL x∈(L.take i).map nmL
     .have B6:Hid (Zj L=5):=(by show Zj L=5;rw[T.out,XB (by rw[hnb];simp),YZ Y]);have hg:gN ((L.take i).map nmL) (.string x.nm)=I (.bool NC):=(by simp only[gN];rw[YZ Y]);clear hnb T X E Y
      go_wp2_with (first|go_at_call 118;refine(Hj _).r λd A2=> ?_;obtain⟨C8,O,_,M⟩:=Hl _ A2;have Ia:=M.lookup keyed9 u175 (z4 d) Tn ND;rw[hg]at Ia;have y0:=Z0 C8 0;simp only[YC,YA]at y0;clear M hg)
      go_ret;exact⟨ZK (a:=5) B6.out.symm,O⟩
     .have B6:Hid (Zj L=if WO x=ND then 1 else shA ((L.take (i+1)).map nmL) (L.drop (i+1))):=(by show Zj L=_;rw[T.out,XB (by rw[hnb];simp),XB Y]);have hg:gN ((L.take i).map nmL) (.string x.nm)=NB:=(by simp only[gN];rw[XB Y]);have hT:Hid ((L.take (i+1)).map nmL=(L.take i).map nmL++[nmL x]):=(by show _=_;rw[T4 E,QL];rfl);clear hnb T X E Y
      go_wp2_with (first
       |(go_at_call 118;refine(Hj _).r λd A2=> ?_;obtain⟨C8,O,Oh,M⟩:=Hl _ A2;have Ia:=M.lookup keyed9 u175 (z4 d) Tn ND;rw[hg]at Ia;obtain⟨o,Gb,Nj⟩:=M.update keyed9 u175 Tn (.bool NC);rw[fI,<-hT.out]at Nj
         have Ab:wr.heap.size≠w.heap.size+1:=(by have:=Dy.lt;omega);have To:=(L4 (w:=d) Ab o).trans C8;have Tp:Ext w (Go.ChangeMaps.setBlock d (w.heap.size+1) o):=O.setBlock _ o OA;have a2:=(L4 (w:=d) (c:=w.heap.size) (b:=w.heap.size+1) OA o).trans Oh;have y0:=Z0 C8 0;simp only[YC,YA]at y0;clear M hg C8 O Oh Ab;generalize Go.ChangeMaps.setBlock d (w.heap.size+1) o=V at Gb Nj To Tp a2;have C:=hM.ext Tp;have g0:=C 0 OA;have g1:=C 1 OA;have g2:=C 2 OA;have g3:=C 3 OA;have g4:=C 4 OA;have g5:=C 5 OA;simp only[Nat.reduceAdd]at g0 g1 g2 g3 g4 g5))
      have Xj:=Z5 To;clear Gb Ia y0 g0 g1 g2 g3 g4 g5 C Hj Hl A2 hE Dy Tl k0 k1 k2 k3 k4 k5 k6 hr A;obtain⟨wo,rfl⟩:∃wo:NL,wo=wr:=⟨_,rfl⟩;go_loopw [34] (λv wi=>∃j:Nat,j<=3/\v= U J j/\Ext V wi/\Hid (∀g,g<j->ZF (spA x g)=NC)) (λv _=>3 - (intOf v).toNat)
      case atStart=>exact⟨0,XL _,rfl,Ext.rfl' V,λg hj=>by omega⟩
      case round=>
       obtain⟨j,hj,rfl,Tq,z⟩:=hrel;have F:=Tq.get To;have a3:=Tq.get a2;have Fd:=Z5 F;by_cases a5:j=3
       .subst a5;have C9:WO x=NC:=(by rw[WO,z.out 0 OA,z.out 1 OA,z.out 2 OA];rfl);have Km:Hid (Zj L=shA ((L.take (i+1)).map nmL) (L.drop (i+1))):=(by show Zj L=_;rw[B6.out,XB (by rw[C9];simp)]);clear C9 z B6;have Bj:=Tp.trans Tq;have Hd:=Nj.keep (Tq.old _ Nj.lt);go_wp2;go_roundw
        case rel=>exact⟨i+1,OA,by push_cast;rfl,a3,Bj,Hd,Km⟩
        case measure=>simp[intOf];omega
       .have Nh:j<3:=OA;have y1:=Z0 F 1;have y2:=Z0 F 2;have y3:=Z0 F 3;have y4:=Z0 F 4;have y5:=Z0 F 5;have y6:=Z0 F 6;simp only[YC,YA,YB]at y1 y2 y3 y4 y5 y6;have f:∀k:Nat,(∀g,g<k->ZF (spA x g)=NC)->ZF (spA x k)=NC->∀g,g<k+1->ZF (spA x g)=NC:=by
         intro k h1 h2 g a4;rcases TL.1 a4 with h|rfl
         .exact h1 g h
         .exact h2
        have y:∀k:Nat,k<3->ZF (spA x k)=ND->Zj L=1:=by
         intro k _ A;rw[B6.out,YZ];unfold WO;obtain rfl|rfl|rfl:k=0\/k=1\/k=2:=OA;all_goals (rw[A];simp)
        replace f:=Lib.hid f;replace y:=Lib.hid y;obtain rfl|rfl|rfl:j=0\/j=1\/j=2:=OA
        all_goals
         have D8:=au;have Is:=BB;have G6:=AJ;have a6:wr.heap.size≠wo.heap.size:=OA;have Oo:∀(o:Obj)(i:Nat),(wr.alloc o).cell? ⟨wo.heap.size,i,NB⟩=wr.cell? ⟨wo.heap.size,i,NB⟩:=λo i=>World.cell?_alloc_lt _ _ _ Fd
         go_wp2_with (first|go_at_call 279;refine(aG _ _ _).r λd Da=> ?_;subst Da|go_at_call 281;refine(BS _ _ _).r λd Da=> ?_;subst Da|go_at_call 283;refine(ak _ _ _).r λd Da=> ?_;subst Da|go_at_call 119;refine(lx _ _ _ _ _).r λ_ Ad=> ?_)
         all_goals have Xk:=(Tq.alloc _).trans Ad
         .rename_i A;simp at A;go_ret;have Cc:Zj L=1:=by
           first|exact y.out 0 OA (by simp only[ZF,spA];simp;omega)|exact y.out 1 OA (by simp only[ZF,spA];simp;omega)|exact y.out 2 OA (by simp only[ZF,spA];simp;omega)
          exact⟨ZK (a:=1) Cc.symm,Tp.trans Xk⟩
         .rename_i A;simp at A;go_roundw
          case rel=>
           first|exact⟨1,OA,rfl,Xk,f.out 0 z.out (by simp only[ZF,spA];simp;omega)⟩|exact⟨2,OA,rfl,Xk,f.out 1 z.out (by simp only[ZF,spA];simp;omega)⟩|exact⟨3,OA,rfl,Xk,f.out 2 z.out (by simp only[ZF,spA];simp;omega)⟩
          case measure=>simp[intOf]
end
section
open Go Go.Nk Go.RowKit
variable [Tw]
def Zp(a b c m:Int)(L:List Sf):Int:=firstV [W4 a b c m,Zj L]
def IZ(a b c m:Int)(base:Option NP)(n cap:Nat)(L:List Sf)(w:NL)(j:L.length=n)(g:Meas w)(y:RawA w base L):
 NW gp 36 #[NJ #[a,b,c,m,Z base n cap]] w (OI (U J (Zp a b c m L)) w):=by
 go_enter fk Tryz.func36,Tryz.ntmps36
 go_wp2_with (
  go_at_call 61
  have d:Ext w _:=(((Ext.rfl' w).alloc (NH #[a,b,c,m,Z base n cap] 26)).alloc (NH #[a,b,c,m,Z base n cap] 117)).alloc (NH #[.func (.func 78) #[NJ #[a,b,c,m,Z base n cap]] #[],.func (.func 79) #[NJ #[a,b,c,m,Z base n cap]] #[]] 129);have f:=Z3 ((w.alloc (NH #[a,b,c,m,Z base n cap] 26)).alloc (NH #[a,b,c,m,Z base n cap] 117)) (NH #[.func (.func 78) #[NJ #[a,b,c,m,Z base n cap]] #[],.func (.func 79) #[NJ #[a,b,c,m,Z base n cap]] #[]] 129) (w.heap.size+1+1);rw[YZ (by simp only[Z2])]at f;generalize World.alloc _ _=h at d f⊢;refine(Hu (w.heap.size+1+1) 2 2 (λi=>if i=0 then 78 else 79) (λi=> #[NJ #[a,b,c,m,Z base n cap]]) (λi=> #[]) [W4 a b c m,Zj L] rfl OA h ?_ ?_ ?_).mono ?_
  .intro i hi;rw[Z0 f];obtain rfl|rfl:i=0\/i=1:=OA
   .rfl
   .rfl
  .intro i hi args w';obtain rfl|rfl:i=0\/i=1:=OA
   .simp[go_sem]
   .simp[go_sem]
  .intro i x hx w' hE'
   match i,hx with
   |0,hx=>
    obtain rfl:=YT hx;exact mE a b c m base n cap w' (g.ext (d.trans hE'))
   |1,hx=>
    obtain rfl:=YT hx;exact eZ a b c m base n cap L w' j (g.ext (d.trans hE')) (y.ext (d.trans hE'))
  rintro e _ ⟨rfl,f⟩)
 go_ret;exact⟨rfl,d.trans f⟩
def RawI(w:NL)(base:Option NP)(l:List Int):Prop:=∀(i:Nat)(x:Int),l[i]? =I x->∃b off,base=I ⟨b,off,NB⟩/\b<w.heap.size/\w.cell? ⟨b,off+i,NB⟩=I (U J x)
def RawI.ext{base:Option NP}(h:RawI w base l)(e:Ext w w'):RawI w' base l:=by
 intro i x hi;obtain⟨b,off,f,d,g⟩:=h i x hi;exact⟨b,off,f,e.lt d,e.cellS g⟩
def V9(n:Nat):Option Int->List Int->Int
 |_,[]=>0
 |p,x::t=>if¬(0<=x/\x<=(n:Int) - 1)then 6 else if(match p with|some y=>decide (x<=y)|none=>ND)then 7 else V9 n (I x) t
def Zq(n:Nat)(l:List Int):Int:=V9 n NB l
def Tp(l:List Int)(i:Nat):Option Int:=match i with
 |0=>NB
 |i+1=>l[i]?
def eH(a b c m:Int)(base:Option NP)(n cap:Nat)(bl:Option NP)(k cl:Nat)(l:List Int)(w:NL)(hn:n<=20)(V:l.length=k)(Ay:k<=100)(hl:RawI w bl l):
 NW gp 99 #[NJ #[a,b,c,m,Z base n cap],Z bl k cl] w (OI (U J (Zq n l)) w):=by
 have Kf:wrap64 ((n:Int) - 1)=(n:Int) - 1:=by unfold wrap64;omega
 go_enter fk Tryz.func99,Tryz.ntmps99;go_wp2;go_loopw [9] (λv wr=>∃i:Nat,i<=k/\v= U J i/\wr.heap[w.heap.size]? =I (NH #[a,b,c,m,Z base n cap] 117)/\Ext w wr/\Hid (Zq n l=V9 n (Tp l i) (l.drop i))) (λv _=>k - (intOf v).toNat)
 case atStart=>exact⟨0,XL _,rfl,by rw[Z3,YZ rfl],(Ext.rfl' w).alloc _,rfl⟩
 case round=>
  obtain⟨i,hi,rfl,d,f,C⟩:=hrel;have q0:=Z0 d 0;have q1:=Z0 d 1;have q2:=Z0 d 2;have q3:=Z0 d 3;have q4:=Z0 d 4;simp only[YC,YA,YB]at q0 q1 q2 q3 q4;by_cases Ao:i=k
  .subst Ao;have X:Hid (Zq n l=0):=by show Zq n l=0;rw[C.out,<-V,UW];rfl
   go_wp2;go_ret;exact⟨ZK (a:=0) X.out.symm,f⟩
  .have A5:i<k:=OA
   obtain⟨x,g⟩:∃x,l[i]? =I x:=⟨_,YH OA⟩;have A:Hid (Zq n l=if¬(0<=x/\x<=(n:Int) - 1)then 6 else if(match Tp l i with|some y=>decide (x<=y)|none=>ND)then 7 else V9 n (Tp l (i+1)) (l.drop (i+1))):=by
    show Zq n l=_;rw[C.out,WP g];have e1:Tp l (i+1)=I x:=g;rw[e1];conv=>lhs;unfold V9
   have M:=hl.ext f;obtain⟨T,off,rfl,_,O⟩:=M i x g;have z:=λw=>WK x 0 ((n:Int) - 1) w
   cases J4:decide (0<=x/\x<=(n:Int) - 1)
   .rw[J4]at z;have h:Hid (Zq n l=6):=(by show Zq n l=6;rw[A.out,YZ (of_decide_eq_false J4)]);clear A C g J4;go_wp2_with (first|go_at_call 65;refine(z _).q ?_);go_ret;exact⟨ZK (a:=6) h.out.symm,f⟩
   .rw[J4]at z;have h:Hid (Zq n l=if(match Tp l i with|some y=>decide (x<=y)|none=>ND)then 7 else V9 n (Tp l (i+1)) (l.drop (i+1))):=(by show Zq n l=_;rw[A.out,XB (by simpa using SD J4)]);clear A C J4;cases i with
    |zero=>
     have Y:Hid (Zq n l=V9 n (Tp l (0+1)) (l.drop (0+1))):=(by show Zq n l=_;rw[h.out];simp[Tp]);clear g h;replace O:wr.cell? ⟨T,off,NB⟩=I (U J x):=O;go_wp2_with (first|go_at_call 65;refine(z _).q ?_);go_roundw
     case rel=>exact⟨1,OA,rfl,d,f,Y⟩
     case measure=>simp[intOf];omega
    |succ j=>
     obtain⟨y,F⟩:∃y,l[j]? =I y:=⟨_,YH OA⟩;obtain⟨_,_,K,_,_⟩:=M j y F;simp only[XM,Addr.mk.injEq,and_true]at K;obtain⟨rfl,rfl⟩:=K;have E:Hid (Zq n l=if decide (x<=y)then 7 else V9 n (Tp l (j+1+1)) (l.drop (j+1+1))):=(by show Zq n l=_;rw[h.out];simp only[Tp,F]);clear h g F;have a0:(0:Int)<(j:Int)+1:=OA;by_cases L:x<=y
     .have Ko:Hid (Zq n l=7):=(by show Zq n l=7;rw[E.out,YZ (VB L)]);clear E;go_wp2_with (first|go_at_call 65;refine(z _).q ?_);go_ret;exact⟨ZK (a:=7) Ko.out.symm,f⟩
     .have Ko:Hid (Zq n l=V9 n (Tp l (j+1+1)) (l.drop (j+1+1))):=(by show Zq n l=_;rw[E.out,XB (by simpa using L)]);clear E;go_wp2_with (first|go_at_call 65;refine(z _).q ?_);go_roundw
      case rel=>exact⟨j+1+1,OA,by push_cast;rfl,d,f,Ko⟩
      case measure=>simp[intOf];omega
end
end Go.Proofs.Tryq
section
namespace Go.Nk
open Go
def lL:∀{l:List (String×DataW Unit)}{f:List MemPlace},DataW.LaidVars P w l f->∀{n:String}{d:DataW Unit},(n,d)∈l->
 ∃g t cs fuel p,P.globalNamed n=I g/\(P.globals[g]?).map (·.type)=I t/\w.var? P n=I cs/\DataW.trod (λ_=>()) P w 0 (λ_=>NC) ND fuel t cs.toList=I (d,p):=by
 intro l
 induction l with
 |nil=>intro f _ n d h;cases h
 |cons a l j=>
  obtain⟨_,_⟩:=a;rintro f ⟨g,t,cs,fuel,p,q,z,x,C,y,A,_⟩ n d h;rcases XG.1 h with e|h
  .cases e;exact⟨g,t,cs,fuel,p,z,x,C,y⟩
  .exact j A h
section
variable {H:Type}{enc:NT×NM->H}{base:Nat}
def FC{H:Type}(o:Nat)(u:NT)(k:IntKind)(v:Int)(y:Nat×NT×DataW H):Bool:=y.1==o&&y.2.1==u&&(match y.2.2 with| .lit (.int k' m)=>decide (k'=k)&&decide (m=v)|_=>ND)
def EO{k:IntKind}{d:DataW H}(j:cs.length<=P.cellsOf t)(h:∃m p,DataW.trod enc P w base spare held m t cs=I (d,p))(x:(OX P n t 0 d).any (FC o u k v)=NC)(E:P.underlying u=I (.int k)):cs[o]? =I (U k v):=by
 obtain⟨y,A,f⟩:=SM.1 x;obtain⟨m,p,K⟩:=br cs n t 0 d (by rw[VZ,XX j];exact h) y A;obtain⟨a,b,c⟩:=y;simp only[FC,YG,XU]at f;obtain⟨⟨rfl,rfl⟩,f⟩:=f;obtain⟨z,C,g,_⟩:=DataW.trod_int E K;simp only[SV]at g;have F:=g.1;subst F;simp only[YG,XE]at f;rw[<-f.2];exact Nt C
def isFn{H:Type}[BEq H](o:Nat)(u:NT)(b:H)(y:Nat×NT×DataW H):Bool:=y.1==o&&y.2.1==u&&(match y.2.2 with| .held x=>x==b|_=>ND)
def N3{b:UInt8}{O C:Array NT}{d:DataW (List UInt8)}(A:cs.length<=P.cellsOf t)(h:∃m p,DataW.trod (funcToken P) P w base spare NC m t cs=I (d,p))(F:(OX P n t 0 d).any (isFn o u (b::r))=NC)
 (z:P.underlying u=I (.func O C va))(M:P.cellsOf u=1)(L:((List.range P.funcs.size).filter λf=>(P.funcs[f]?).any (·.name.toUTF8.data.toList==b::r))=[f0]):cs[o]? =I (.func (.func f0) #[] #[]):=by
 obtain⟨y,K,g⟩:=SM.1 F;obtain⟨m,p,j⟩:=br cs n t 0 d (by rw[VZ,XX A];exact h) y K;obtain⟨a,T,c⟩:=y;simp only[isFn,YG,XU]at g;obtain⟨⟨rfl,rfl⟩,g⟩:=g;cases c<;>simp only[YR]at g
 rename_i x;have g:=eq_of_beq g;subst g;rw[M]at j;simp only at j;have E:((cs.drop a).take 1).length<=1:=by simp;omega
 match hz:(cs.drop a).take 1,E,j with
 |[],_,j=>cases m<;>simp[DataW.trod,z]at j
 |[v],_,j=>
  obtain rfl:=func_of_trod z L j;exact Nt hz
end
end Go.Nk
namespace Go.Proofs.Tryq
open Go Go.Nk
open Go.Proofs.YthahddndgbpooaaGreatDoor (Rows.laid_math_bits_deBruijn32tab Rows.laid_math_bits_deBruijn64tab Rows.laid_internal_strconv_uint64pow10 Rows.laid_unicode_utf8_acceptRanges Rows.laid_errors_errorType Rows.laid_strconv_ErrRange Rows.laid_strconv_ErrSyntax Rows.laid_nock_arrow_most Rows.laid_nock_arrow_measures Rows.laid_nock_arrow_errForm Rows.laid_unicode_utf8_first)
def laidL:List (String×DataW Unit):=[("math/bits.deBruijn32tab",Rows.laid_math_bits_deBruijn32tab),("math/bits.deBruijn64tab",Rows.laid_math_bits_deBruijn64tab),("internal/strconv.uint64pow10",Rows.laid_internal_strconv_uint64pow10),("unicode/utf8.acceptRanges",Rows.laid_unicode_utf8_acceptRanges),("errors.errorType",Rows.laid_errors_errorType),("strconv.ErrRange",Rows.laid_strconv_ErrRange),("strconv.ErrSyntax",Rows.laid_strconv_ErrSyntax),("nock/arrow.most",Rows.laid_nock_arrow_most),("nock/arrow.measures",Rows.laid_nock_arrow_measures),("nock/arrow.errForm",Rows.laid_nock_arrow_errForm),("unicode/utf8.first",Rows.laid_unicode_utf8_first)]
def under5:Tryz.prog.underlying 5=I (.int .u8):=OB
def under3:Tryz.prog.underlying 3=I (.int J):=OB
def EC{n:String}{cs:Array NM}{H:Type}{enc:NT×NM->H}{d:DataW H}{t:Nat}{p:List MemPlace}{base:Nat}(h:DataW.trod enc P W base spare held fuel t cs.toList=I (d,p))
 (f:(∃fs,P.underlying t=I (.struct fs))\/∃n e,P.underlying t=I (.array n e)):cs.toList.length<=P.cellsOf t:=by
 rcases f with⟨fs,f⟩|⟨n,e,f⟩
 .obtain⟨_,_,_,_,hl,_⟩:=DataW.trod_struct f h;exact SH hl
 .obtain⟨_,_,_,_,hl,_⟩:=DataW.trod_array f h;exact SH hl
def isS(P:NO)(t:NT):Bool:=match P.underlying t with|some (.struct _)=>NC|_=>ND
def isA(P:NO)(t:NT):Bool:=match P.underlying t with|some (.array _ _)=>NC|_=>ND
def isF(P:NO)(t:NT):Bool:=match P.underlying t with|some (.func _ _ _)=>NC|_=>ND
def cR(h:isF P t=NC):∃a b c,P.underlying t=I (.func a b c):=by
 unfold isF at h;split at h
 .exact⟨_,_,_,by assumption⟩
 .cases h
def FT(h:isS P t=NC):∃fs,P.underlying t=I (.struct fs):=by
 unfold isS at h;split at h
 .exact⟨_,by assumption⟩
 .cases h
def FE(h:isA P t=NC):∃n e,P.underlying t=I (.array n e):=by
 unfold isA at h;split at h
 .exact⟨_,_,by assumption⟩
 .cases h
def IA(h:laidMetH NX laidL W){n:String}{d:DataW Unit}(j:(n,d)∈laidL)(f:d.handleName?.isNone=NC):
 ∃g t cs fuel p,Tryz.prog.globalNamed n=I g/\(Tryz.prog.globals[g]?).map (·.type)=I t/\W.var? NX n=I cs/\DataW.trod (λ_=>()) NX W 0 (λ_=>NC) ND fuel t cs.toList=I (d,p):=by
 obtain⟨⟨_,g,_⟩,_⟩:=laidMetH_iff.1 h;exact lL g (UO.2 ⟨j,f⟩)
def rc(h:laidMetH NX laidL W):Most W:=by
 obtain⟨g,t,cs,fuel,p,g,x,j,f⟩:=IA h (n:= "nock/arrow.most") (d:=Rows.laid_nock_arrow_most) (by simp[laidL]) OB;obtain rfl:=YT ((show Tryz.prog.globalNamed "nock/arrow.most" =I 1 by kernel_rfl).symm.trans g);obtain rfl:=YT ((show(Tryz.prog.globals[1]?).map (·.type)=I 49 by kernel_rfl).symm.trans x);obtain⟨fs,y⟩:=FT (P:=NX) (t:=49) OB;have x:=EC (n:= "") f (.inl ⟨fs,y⟩);have y:=EO (n:=2) (o:=0) (u:=3) (k:= J) (v:= -1099511627776) x ⟨_,_,f⟩ OB under3;have e1:=EO (n:=2) (o:=1) (u:=3) (k:= J) (v:=1099511627776) x ⟨_,_,f⟩ OB under3;exact⟨by rw[World.var?_cell g j 0];simpa using y,by rw[World.var?_cell g j 1];simpa using e1⟩
def od(h:laidMetH NX laidL W):Deb W:=by
 obtain⟨g,t,cs,fuel,p,g,j,z,f⟩:=IA h (n:= "math/bits.deBruijn64tab") (d:=Rows.laid_math_bits_deBruijn64tab) (by simp[laidL]) OB;obtain rfl:=YT ((show Tryz.prog.globalNamed "math/bits.deBruijn64tab" =I 6 by kernel_rfl).symm.trans g);obtain rfl:=YT ((show(Tryz.prog.globals[6]?).map (·.type)=I 302 by kernel_rfl).symm.trans j);obtain⟨m,e,j⟩:=FE (P:=NX) (t:=302) OB;have y:=EC (n:= "") f (.inr ⟨m,e,j⟩);intro i hi;have x:((List.range 8).all λi=>(OX NX 2 302 0 (Rows.laid_math_bits_deBruijn64tab (H:=Unit))).any (FC (dbP i) 5 .u8 (i:Int)))=NC:=OB
 have j:=EO (n:=2) (o:=dbP i) (u:=5) (k:= .u8) (v:=i) y ⟨_,_,f⟩ (YL.1 x i (YU.2 hi)) under5;rw[World.var?_cell g z];simpa using j
def ki(h:laidMetH NX laidL W):Meas W:=by
 obtain⟨g,t,cs,fuel,p,g,f,j,d⟩:=h.funcs (n:= "nock/arrow.measures") (by unfold laidL Rows.laid_nock_arrow_measures;exact YQ (i:=8) rfl);obtain rfl:=YT ((show Tryz.prog.globalNamed "nock/arrow.measures" =I 2 by kernel_rfl).symm.trans g);obtain rfl:=YT ((show(Tryz.prog.globals[2]?).map (·.type)=I 197 by kernel_rfl).symm.trans f);obtain⟨m,e,x⟩:=FE (P:=NX) (t:=197) OB;have f:=EC (n:= "") d (.inr ⟨m,e,x⟩)
 have cell:∀(i:Nat)(v:NM),cs.toList[i]? =I v->W.cell? ⟨2,i,NB⟩=I v:=λi v e=>by
  rw[World.var?_cell g j];simpa using e
 obtain⟨_,_,_,g⟩:=cR (P:=NX) (t:=193) OB;obtain⟨_,_,_,j⟩:=cR (P:=NX) (t:=194) OB;intro i hi;apply cell;obtain rfl|rfl|rfl|rfl|rfl|rfl:i=0\/i=1\/i=2\/i=3\/i=4\/i=5:=OA
 .exact N3 (n:=3) (u:=193) (b:=110) (r:=[111,99,107,47,97,114,114,111,119,46,109,101,97,115,117,114,101,115,36,49]) f ⟨_,_,d⟩ OB g OB OB
 .exact N3 (n:=3) (u:=194) (b:=110) (r:=[111,99,107,47,97,114,114,111,119,46,109,101,97,115,117,114,101,115,36,50]) f ⟨_,_,d⟩ OB j OB OB
 .exact N3 (n:=3) (u:=193) (b:=110) (r:=[111,99,107,47,97,114,114,111,119,46,109,101,97,115,117,114,101,115,36,51]) f ⟨_,_,d⟩ OB g OB OB
 .exact N3 (n:=3) (u:=194) (b:=110) (r:=[111,99,107,47,97,114,114,111,119,46,109,101,97,115,117,114,101,115,36,52]) f ⟨_,_,d⟩ OB j OB OB
 .exact N3 (n:=3) (u:=193) (b:=110) (r:=[111,99,107,47,97,114,114,111,119,46,109,101,97,115,117,114,101,115,36,53]) f ⟨_,_,d⟩ OB g OB OB
 .exact N3 (n:=3) (u:=194) (b:=110) (r:=[111,99,107,47,97,114,114,111,119,46,109,101,97,115,117,114,101,115,36,54]) f ⟨_,_,d⟩ OB j OB OB
end Go.Proofs.Tryq
end
