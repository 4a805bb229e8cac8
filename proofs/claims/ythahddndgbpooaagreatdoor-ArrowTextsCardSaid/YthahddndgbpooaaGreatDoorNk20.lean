import Derived.Test.YthahddndgbpooaaGreatDoorNk19
set_option linter.all false
set_option maxRecDepth 100000
set_option maxHeartbeats 4000000
open Go
open Option renaming some->U,none->J
open Go.Obj renaming cells->Z
open Go.Proofs.Tryp renaming prog->I
open Go.Value renaming int->NE,slice->NG,pointer->NI,agg->NJ
open Go.IntKind renaming i64->NF
open Go renaming World->NL,Calls->NW,execOp->NU,Value->NM,undef->NQ
open Go.Ending renaming returned->NK
open Bool renaming false->ND,true->NC
variable {act:Act}{args:Array NM}{m:Bool}{assign body:Code}{f:FuncId}{a b:Int}{d l s t x:List UInt8}{b0 cp i k n:Nat}{g:Operand}{p:Tmp}{v:NM}{W w:NL}
namespace Go.Proofs.Tryq
open Go.Nk Go.RowKit
variable [Tw]
def oI(s:Rs):okS s=(inR s.a 0 90&&decide (0<=s.m/\s.m<=s.M/\s.M<=99999)&&inR s.wi 0 9&&inR s.li 0 9):=rfl
def oz(e c h j:Int):Sw e c h j=if inR e 0 999&&inR c 0 999&&inR h 0 999&&inR j 0 999&&decide (e<=c)then 0 else 1:=rfl
def DY(j e u o:Int)(z:Option Addr)(n L:Nat)(S:List Rs)(w:NL)(A1:S.length=n)(hS:RawS w z S):
 NW gp 18 #[NJ #[j,e,u,o,NG z n L]] w (OI (NE NF (ZC j e u o S)) w):=by
 have B:Hid (ZC j e u o S=if inR j 0 999&&inR e 0 999&&inR u 0 999&&inR o 0 999&&decide (j<=e)then(if 8<n then 2 else if(S.drop 0).all okS then 0 else 1)else 1):=by
  show _=_;rw[ZC,firstV,oz];by_cases h:(inR j 0 999&&inR e 0 999&&inR u 0 999&&inR o 0 999&&decide (j<=e))=NC
  .rw[YZ h,YZ h,YZ rfl,firstV,Uk,A1];by_cases X:8<n
   .simp[X]
   .rw[XB X,VZ];by_cases ha:S.all okS=NC
    .simp[X,ha,firstV]
    .simp[X,ha]
  .rw[XB h,XB h,XB OC]
 have Fk:=λW=>PC j 0 999 W;have F:=λW=>PC e 0 999 W;have K:=λW=>PC u 0 999 W;have E:=λW=>PC o 0 999 W
 generalize inR j 0 999=b0 at*;generalize inR e 0 999=b1 at*;generalize inR u 0 999=b2 at*;generalize inR o 0 999=b3 at*;have Br:=((Ext.rfl' w).alloc (Z #[j,e,u,o,NG z n L] 31)).alloc (Z #[j,e,u,o] 28);have Jg:((w.alloc (Z #[j,e,u,o,NG z n L] 31)).alloc (Z #[j,e,u,o] 28)).heap[w.heap.size]? =U (Z #[j,e,u,o,NG z n L] 31):=by
  simp only[Z3,Z2];rw[XB OA,YZ trivial]
 replace A1:Hid (S.length=n):=A1;have Gc:Hid (RawS w z S):=hS;clear hS;cases b0 with
 |false=>(
   have H:Hid (ZC j e u o S=1):=by show _=_;rw[B.out];simp
   clear B;go_enter fk Tryz.func18,Tryz.ntmps18;go_wp2_with (first|go_at_call 52;(with_reducible refine(Fk _).q ?_)|go_at_call 52;(with_reducible refine(F _).q ?_)|go_at_call 52;(with_reducible refine(K _).q ?_)|go_at_call 52;(with_reducible refine(E _).q ?_));go_ret;exact⟨ZK (a:=1) H.out.symm,Br⟩)
 |true=>
  cases b1 with
  |false=>(
    have H:Hid (ZC j e u o S=1):=(by show _=_;rw[B.out];simp);clear B;go_enter fk Tryz.func18,Tryz.ntmps18;go_wp2_with (first|go_at_call 52;(with_reducible refine(Fk _).q ?_)|go_at_call 52;(with_reducible refine(F _).q ?_)|go_at_call 52;(with_reducible refine(K _).q ?_)|go_at_call 52;(with_reducible refine(E _).q ?_));go_ret;exact⟨ZK (a:=1) H.out.symm,Br⟩)
  |true=>
   cases b2 with
   |false=>(
     have H:Hid (ZC j e u o S=1):=(by show _=_;rw[B.out];simp);clear B;go_enter fk Tryz.func18,Tryz.ntmps18;go_wp2_with (first|go_at_call 52;(with_reducible refine(Fk _).q ?_)|go_at_call 52;(with_reducible refine(F _).q ?_)|go_at_call 52;(with_reducible refine(K _).q ?_)|go_at_call 52;(with_reducible refine(E _).q ?_));go_ret;exact⟨ZK (a:=1) H.out.symm,Br⟩)
   |true=>
    cases b3 with
    |false=>(
      have H:Hid (ZC j e u o S=1):=(by show _=_;rw[B.out];simp);clear B;go_enter fk Tryz.func18,Tryz.ntmps18;go_wp2_with (first|go_at_call 52;(with_reducible refine(Fk _).q ?_)|go_at_call 52;(with_reducible refine(F _).q ?_)|go_at_call 52;(with_reducible refine(K _).q ?_)|go_at_call 52;(with_reducible refine(E _).q ?_));go_ret;exact⟨ZK (a:=1) H.out.symm,Br⟩)
    |true=>
     by_cases hr:j<=e
     .have Lz:decide (j<=e)=NC:=VB hr;rw[Lz]at B;simp only[Bool.and_self,XY]at B;clear Lz;by_cases X:8<n
      .have h8i:(8:Int)<(n:Int):=OA;have H:Hid (ZC j e u o S=2):=(by show _=_;rw[B.out,YZ X]);clear B X;go_enter fk Tryz.func18,Tryz.ntmps18;go_wp2_with (first|go_at_call 52;(with_reducible refine(Fk _).q ?_)|go_at_call 52;(with_reducible refine(F _).q ?_)|go_at_call 52;(with_reducible refine(K _).q ?_)|go_at_call 52;(with_reducible refine(E _).q ?_));go_ret;exact⟨ZK (a:=2) H.out.symm,Br⟩
      .have h8i:(n:Int)<=8:=OA;have H:Hid (ZC j e u o S=if(S.drop 0).all okS then 0 else 1):=(by show _=_;rw[B.out,XB X]);clear B X;go_enter fk Tryz.func18,Tryz.ntmps18;go_wp2_with (first|go_at_call 52;(with_reducible refine(Fk _).q ?_)|go_at_call 52;(with_reducible refine(F _).q ?_)|go_at_call 52;(with_reducible refine(K _).q ?_)|go_at_call 52;(with_reducible refine(E _).q ?_));clear Fk F K E;go_loopw [4] (λv wr=>∃i:Nat,i<=n/\v= NE NF i/\Ext w wr/\wr.heap[w.heap.size]? =U (Z #[j,e,u,o,NG z n L] 31)/\Hid (ZC j e u o S=if(S.drop i).all okS then 0 else 1)) (λv _=>n - (intOf v).toNat)
       case atStart=>exact⟨0,XL _,rfl,Br,Jg,H⟩
       case round=>
        clear Br Jg H;obtain⟨i,hi,rfl,hE,hb,HP⟩:=hrel;have q4:=Z0 hb 4;simp only[YC,YA,YB]at q4;by_cases Ao:i=n
        .subst Ao;have HR:Hid (ZC j e u o S=0):=(by show _=_;rw[HP.out,TR (by have:=A1.out;omega)];rfl);clear HP;go_wp2;go_ret;exact⟨ZK (a:=0) HR.out.symm,hE⟩
        .have A5:i<n:=OA;have Gm:(i:Int)<(n:Int):=OA;obtain⟨s,hs⟩:∃s,S[i]? =U s:=⟨_,YH (by have:=A1.out;omega)⟩;obtain⟨_,_,rfl,_,sh⟩:=Gc.out i s hs;have P:Hid (ZC j e u o S=if inR s.a 0 90&&decide (0<=s.m/\s.m<=s.M/\s.M<=99999)&&inR s.wi 0 9&&inR s.li 0 9&&(S.drop (i+1)).all okS then 0 else 1):=(by show _=_;rw[HP.out,WP hs,QZ,oI]);have s0:=hE.cellS sh.c0;have s1:=hE.cellS sh.c1;have s2:=hE.cellS sh.c2;have s3:=hE.cellS sh.c3;have s4:=hE.cellS sh.c4;have Fk:=λW=>PC s.a 0 90 W;have K:=λW=>PC s.wi 0 9 W;have E:=λW=>PC s.li 0 9 W
         have F:=λW=>IV s.m s.M 0 99999 W
         clear HP hs sh Gc;generalize inR s.a 0 90=b0 at*;generalize decide (0<=s.m/\s.m<=s.M/\s.M<=99999)=b1 at*;generalize inR s.wi 0 9=b2 at*;generalize inR s.li 0 9=b3 at*;have C:=hE.alloc (Z #[s.a,s.m,s.M,s.wi,s.li] 75);have O:=((Ext.rfl' wr).alloc (Z #[s.a,s.m,s.M,s.wi,s.li] 75)).get hb;have c:(wr.alloc (Z #[s.a,s.m,s.M,s.wi,s.li] 75)).heap[wr.heap.size]? =U (Z #[s.a,s.m,s.M,s.wi,s.li] 75):=(by rw[Z3,YZ rfl]);cases b0 with
         |false=>(
           have A:Hid (ZC j e u o S=1):=(by show _=_;rw[P.out];simp);clear P;go_wp2_with (first|go_at_call 52;(with_reducible refine(Fk _).q ?_)|(go_at_call 54;(with_reducible refine(F _).r λw9 y=> ?_);replace C:=C.trans y;replace O:=y.get O;replace c:=y.get c;clear y;have y0:=Z0 c 0;have T:=Z0 c 1;have y2:=Z0 c 2;have V:=Z0 c 3;have Y:=Z0 c 4;simp only[YC,YA,YB]at y0 T y2 V Y)|go_at_call 52;(with_reducible refine(K _).q ?_)|go_at_call 52;(with_reducible refine(E _).q ?_));go_ret;exact⟨ZK (a:=1) A.out.symm,C⟩)
         |true=>
          cases b1 with
          |false=>(
            have A:Hid (ZC j e u o S=1):=(by show _=_;rw[P.out];simp);clear P;go_wp2_with (first|go_at_call 52;(with_reducible refine(Fk _).q ?_)|(go_at_call 54;(with_reducible refine(F _).r λw9 y=> ?_);replace C:=C.trans y;replace O:=y.get O;replace c:=y.get c;clear y;have y0:=Z0 c 0;have T:=Z0 c 1;have y2:=Z0 c 2;have V:=Z0 c 3;have Y:=Z0 c 4;simp only[YC,YA,YB]at y0 T y2 V Y)|go_at_call 52;(with_reducible refine(K _).q ?_)|go_at_call 52;(with_reducible refine(E _).q ?_));go_ret;exact⟨ZK (a:=1) A.out.symm,C⟩)
          |true=>
           cases b2 with
           |false=>(
             have A:Hid (ZC j e u o S=1):=(by show _=_;rw[P.out];simp);clear P;go_wp2_with (first|go_at_call 52;(with_reducible refine(Fk _).q ?_)|(go_at_call 54;(with_reducible refine(F _).r λw9 y=> ?_);replace C:=C.trans y;replace O:=y.get O;replace c:=y.get c;clear y;have y0:=Z0 c 0;have T:=Z0 c 1;have y2:=Z0 c 2;have V:=Z0 c 3;have Y:=Z0 c 4;simp only[YC,YA,YB]at y0 T y2 V Y)|go_at_call 52;(with_reducible refine(K _).q ?_)|go_at_call 52;(with_reducible refine(E _).q ?_));go_ret;exact⟨ZK (a:=1) A.out.symm,C⟩)
           |true=>
            cases b3 with
            |false=>(
              have A:Hid (ZC j e u o S=1):=(by show _=_;rw[P.out];simp);clear P;go_wp2_with (first|go_at_call 52;(with_reducible refine(Fk _).q ?_)|(go_at_call 54;(with_reducible refine(F _).r λw9 y=> ?_);replace C:=C.trans y;replace O:=y.get O;replace c:=y.get c;clear y;have y0:=Z0 c 0;have T:=Z0 c 1;have y2:=Z0 c 2;have V:=Z0 c 3;have Y:=Z0 c 4;simp only[YC,YA,YB]at y0 T y2 V Y)|go_at_call 52;(with_reducible refine(K _).q ?_)|go_at_call 52;(with_reducible refine(E _).q ?_));go_ret;exact⟨ZK (a:=1) A.out.symm,C⟩)
            |true=>
             have A:Hid (ZC j e u o S=if(S.drop (i+1)).all okS then 0 else 1):=(by show _=_;rw[P.out];rfl);clear P;go_wp2_with (first|go_at_call 52;(with_reducible refine(Fk _).q ?_)|(go_at_call 54;(with_reducible refine(F _).r λw9 y=> ?_);replace C:=C.trans y;replace O:=y.get O;replace c:=y.get c;clear y;have y0:=Z0 c 0;have T:=Z0 c 1;have y2:=Z0 c 2;have V:=Z0 c 3;have Y:=Z0 c 4;simp only[YC,YA,YB]at y0 T y2 V Y)|go_at_call 52;(with_reducible refine(K _).q ?_)|go_at_call 52;(with_reducible refine(E _).q ?_));go_roundw
             case rel=>exact⟨i+1,OA,by push_cast;rfl,C,O,A⟩
             case measure=>simp[intOf];omega
     .have Lz:decide (j<=e)=ND:=XV hr;have a0:e<j:=OA;have H:Hid (ZC j e u o S=1):=(by show _=_;rw[B.out,Lz];simp);clear B Lz;go_enter fk Tryz.func18,Tryz.ntmps18;go_wp2_with (first|go_at_call 52;(with_reducible refine(Fk _).q ?_)|go_at_call 52;(with_reducible refine(F _).q ?_)|go_at_call 52;(with_reducible refine(K _).q ?_)|go_at_call 52;(with_reducible refine(E _).q ?_));go_ret;exact⟨ZK (a:=1) H.out.symm,Br⟩
end Go.Proofs.Tryq
namespace Go.Proofs.Tryp
section
open Go.Nk Go.RowKit Go.Shelf Go.Proofs Go.Proofs.Tryq
attribute [local instance] k3
def Rq(x:Rs):List UInt8:=ZY [115,104,111,116] (ZZ x)
def func10:Tryp.prog.funcs[10]? =U Tryz.f10:=ZV OB OB
abbrev ntmps10:=Tryz.ntmps10
@[simp] def call10 (args:Array NM) (w:NL):(callFunc 10 args).run I w= .ok (.enter 10 args) w:=Z7 func10 OB OB args w
def ch{x:Rs}(h:okR x):∀y∈ZZ x,y.length<=1000:=by
 intro z c;simp only[ZZ,XG,XO,UE]at c;rcases c with rfl|rfl|rfl|rfl
 .exact XC (VV _ h.a.s.1 h.a.s.2) OA
 .exact XC (PQ _ _ h.m.s h.M.s) OA
 .exact XC (VV _ h.wi.s.1 h.wi.s.2) OA
 .exact XC (VV _ h.li.s.1 h.li.s.2) OA
def pN(a b c m:Int)(e:Option Addr)(n u:Nat)(L:List Rs)(w:NL)(X:L.length=n)(hn:n<=20)(T:RawS w e L):
 NW I 10 #[NJ #[a,b,c,m,NG e n u]] w (OI (.tuple #[str (if ZC a b c m L=0 then FJ a b c m L else[]),NE NF (ZC a b c m L)]) w):=by
 have hg:(w.alloc (Z #[a,b,c,m,NG e n u] 31)).heap[w.heap.size]? =U (Z #[a,b,c,m,NG e n u] 31):=by rw[Z3,YZ rfl]
 have hE:Ext w (w.alloc (Z #[a,b,c,m,NG e n u] 31)):=(Ext.rfl' w).alloc _;have Bi:=T.ext hE;have Bb:=λw T=>DY a b c m e n u L w X T
 replace T:Hid (RawS w e L):=T;replace X:Hid (L.length=n):=X;by_cases P:ZC a b c m L=0
 .rw[P]at Bb⊢;rw[YZ rfl];obtain⟨ha,hb,hc,hm,_,hX⟩:=EE P;have Fi:Hid (∀y∈ZX a b c m,y.length<=1000):=BF ha hb hc hm;replace hX:Hid _:=hX;clear P;go_enter func10,ntmps10
  go_wp2_with (first
   |(go_at_call 18;refine(Bb _ Bi).r λV A2=> ?_
     have Ad:=hE.trans A2;have O:=A2.get hg;have q0:=Z0 O 0;have q1:=Z0 O 1;have q2:=Z0 O 2;have q3:=Z0 O 3;simp only[YC,YA,YB]at q0 q1 q2 q3))
  have Ag:=Ad.alloc (Z #[a,b,c,m] 28);have H:(V.alloc (Z #[a,b,c,m] 28)).heap[V.heap.size]? =U (Z #[a,b,c,m] 28):=by rw[Z3,YZ rfl]
  have Bu:=((Ext.rfl' V).alloc (Z #[a,b,c,m] 28)).get O;generalize V.alloc (Z #[a,b,c,m] 28)=w3 at Ag H Bu⊢;generalize V.heap.size=B3 at H⊢;have r0:=ZQ (Z0 H 0);have r1:=ZQ (Z0 H 1);have r2:=ZQ (Z0 H 2);have r3:=ZQ (Z0 H 3);refine Z9 15 OB ?_;refine ZS [0,1,3,4,6,7,9,10] OB OB ?_;simp only[ZR,YB,YA,YK,YJ]
  repeat (go_big_quiet_step (fail))
  refine XI ?_;refine Z4 2 (f:=41) (args:= #[a]) (v:=str (Lib.itoa a)) OB rfl OB rfl (λW=>by simp[go_sem,NU,Act.eval]) (λW _=>Vr a ha W) ?_;go_simp;refine Z4 5 (f:=41) (args:= #[b]) (v:=str (Lib.itoa b)) OB rfl OB rfl (λW=>by simp[go_sem,NU,Act.eval]) (λW _=>Vr b hb W) ?_;go_simp;refine Z4 8 (f:=41) (args:= #[c]) (v:=str (Lib.itoa c)) OB rfl OB rfl (λW=>by simp[go_sem,NU,Act.eval]) (λW _=>Vr c hc W) ?_;go_simp;refine Z4 11 (f:=41) (args:= #[m]) (v:=str (Lib.itoa m)) OB rfl OB rfl (λW=>by simp[go_sem,NU,Act.eval]) (λW _=>Vr m hm W) ?_;go_simp;refine Yu 12 rfl OB rfl (λW j=>Ye ⟨NG (U W.heap.size) 4 4,W.alloc (Z #[str (Lib.itoa a),str (Lib.itoa b),str (Lib.itoa c),str (Lib.itoa m)] 9),OE,(Ext.rfl' W).alloc _,?_⟩);have o:=j.trans ((Ext.rfl' W).alloc (Z #[str (Lib.itoa a),str (Lib.itoa b),str (Lib.itoa c),str (Lib.itoa m)] 9));have C:(W.alloc (Z #[str (Lib.itoa a),str (Lib.itoa b),str (Lib.itoa c),str (Lib.itoa m)] 9)).heap[W.heap.size]? =U (Z #[str (Lib.itoa a),str (Lib.itoa b),str (Lib.itoa c),str (Lib.itoa m)] 9):=by rw[Z3,YZ rfl]
  generalize W.alloc (Z #[str (Lib.itoa a),str (Lib.itoa b),str (Lib.itoa c),str (Lib.itoa m)] 9)=W5 at o C⊢;generalize W.heap.size=B at C⊢;clear j;go_simp;refine Yu 13 rfl OB rfl (λW j=>Yd (f:=40) (args:= #[str [115,105,103,104,116],NG (U B) 4 4]) OE ?_);refine(JE [115,105,103,104,116] B 0 4 4 (ZX a b c m) W rfl OA (IR (ZX a b c m) (j.get C)) OC Fi.out).q ?_;refine⟨str (ZY [115,105,103,104,116] (ZX a b c m)),rfl,Ext.rfl' _,?_⟩;replace o:=o.trans j;clear j C;go_simp;refine ZS [14] OB OB ?_;simp only[ZR,YB,YA,YK,YJ]
  repeat (go_big_quiet_step (fail))
  refine XI ?_;refine Yt OB (λW j=> ?_);replace o:=o.trans j;have As:=Ag.trans o;have Ca:=o.get Bu;have q4:=Z0 Ca 4;simp only[YC,YA,YB]at q4;clear j o hg O H Bu r0 r1 r2 r3 q0 q1 q2 q3 Bi hE A2 Ad Ag Bb ha hb hc hm;replace Ca:Hid _:=Ca;go_wp2;go_loopw [6,7] (λv6 v7 wr=>∃i:Nat,i<=n/\v7= NE NF i/\v6=str (ZY [115,105,103,104,116] (ZX a b c m)++((L.take i).map Rq).flatten)/\Ext w wr/\wr.cell? ⟨w.heap.size,4,J⟩=U (NG e n u)) (λ_ v7 _=>n - (intOf v7).toNat)
  case atStart=>exact⟨0,OA,rfl,OD,As,q4⟩
  case round=>
   obtain⟨i,hi,rfl,rfl,Bp,q4⟩:=hrel;by_cases Ao:i=n
   .subst Ao;go_wp2;go_ret2;rw[XX (by have:=X.out;omega)];exact⟨rfl,Bp⟩
   .have A5:(i:Int)<(n:Int):=OA;obtain⟨x,Y⟩:∃x,L[i]? =U x:=⟨_,YH (by have:=X.out;omega)⟩;obtain⟨_,_,rfl,_,A⟩:=(T.out.ext Bp) i x Y;have x0:=A.1;have x1:=A.2;have x2:=A.3;have x3:=A.4;have x4:=A.5;have K:=hX.out x (YQ Y);clear A;go_wp2;have Cw:=Bp.alloc (Z #[x.a,x.m,x.M,x.wi,x.li] 75);have E:(wr.alloc (Z #[x.a,x.m,x.M,x.wi,x.li] 75)).heap[wr.heap.size]? =U (Z #[x.a,x.m,x.M,x.wi,x.li] 75):=(by rw[Z3,YZ rfl]);have p4:=((Ext.rfl' wr).alloc (Z #[x.a,x.m,x.M,x.wi,x.li] 75)).cellS q4
    have Vu:∀(W:NL)(B:Nat),W.heap[B]? =U (Z #[str (Lib.itoa x.a),str (ZW x.m x.M),str (Lib.itoa x.wi),str (Lib.itoa x.li)] 9)->NW I 40 #[str [115,104,111,116],NG (U ⟨B,0,J⟩) 4 4] W (OJ (str (Rq x)) W):=λW B h=>
     JE [115,104,111,116] B 0 4 4 (ZZ x) W rfl OA (IR (t:=9) (ZZ x) h) OC (ch K)
    have Ba:¬9223372036854775807<(ZY [115,105,103,104,116] (ZX a b c m)++((L.take i).map Rq).flatten).length+(Rq x).length:=by
     have h1:=Pt 1000 ([115,105,103,104,116]::ZX a b c m) (λy hy=>by
      rcases XG.1 hy with rfl|hy
      .decide
      .exact Fi.out y hy)
     have h2:∀z∈L,([32].intercalate ([115,104,111,116]::ZZ z)).length<=5*1001:=λz hz=>Pt 1000 ([115,104,111,116]::ZZ z) (λy hy=>by
      rcases XG.1 hy with rfl|hy
      .decide
      .exact ch (hX.out z hz) y hy)
     have h3:=LF 10000 ((L.take i).map Rq) (by
      intro y hy;obtain⟨z,hz,rfl⟩:=VW.1 hy;have:=h2 z (QH hz);simp only[Rq,ZZ,ZY,XH,YP,XW];simp only[ZZ]at this;omega)
     have h6:=h2 x (YQ Y);rw[TH,VN]at h3;have h4:min i L.length<=20:=OA;have h5:=SG 10000 h4;simp only[ZX,VG,VX,YP,XW]at h1;simp only[ZZ]at h6;simp only[ZX,VG,VX,Rq,ZZ,ZY,XH,YP,XW];omega
    have hH:Hid (L.take (i+1)=L.take i++[x]):=(by show _=_;rw[VL,Y];rfl);obtain⟨a0,Eg⟩:∃a0,Hid (a0=ZY [115,105,103,104,116] (ZX a b c m)++((L.take i).map Rq).flatten):=⟨_,rfl⟩;obtain⟨A,Fe⟩:∃A,Hid (A=Rq x):=⟨_,rfl⟩;rw[<-Eg.out]at Ba⊢;rw[<-Fe.out]at Ba Vu;generalize World.alloc wr (Z #[x.a,x.m,x.M,x.wi,x.li] 75)=w7 at Cw E p4⊢;generalize wr.heap.size=B7 at E⊢;have y0:=Z0 E 0;have y1:=Z0 E 1;have y2:=Z0 E 2;have y3:=Z0 E 3;have y4:=Z0 E 4;simp only[YC,YA,YB]at y0 y1 y2 y3 y4;have a4:=ZQ y0;have a2:=ZQ y1;have a3:=ZQ y2;have a5:=ZQ y3;have a1:=ZQ y4;clear Y x0 x1 x2 x3 x4 q4;refine Z9 17 OB ?_;refine ZS [0,1,2,4,5,7,8,10,11] OB OB ?_;simp only[ZR,YB,YA,YK,YJ]
    repeat (go_big_quiet_step (fail))
    refine XI ?_;refine Z4 3 (f:=41) (args:= #[x.a]) (v:=str (Lib.itoa x.a)) OB rfl OB rfl (λW=>by simp[go_sem,NU,Act.eval]) (λW _=>Vr x.a K.a W) ?_;go_simp;refine Z4 6 (f:=42) (args:= #[NJ #[x.m,x.M]]) (v:=str (ZW x.m x.M)) OB rfl OB rfl (λW=>by simp[go_sem,NU,Act.eval]) (λW _=>JA x.m x.M K.m K.M W) ?_;go_simp;refine Z4 9 (f:=41) (args:= #[x.wi]) (v:=str (Lib.itoa x.wi)) OB rfl OB rfl (λW=>by simp[go_sem,NU,Act.eval]) (λW _=>Vr x.wi K.wi W) ?_;go_simp;refine Z4 12 (f:=41) (args:= #[x.li]) (v:=str (Lib.itoa x.li)) OB rfl OB rfl (λW=>by simp[go_sem,NU,Act.eval]) (λW _=>Vr x.li K.li W) ?_;go_simp;refine Yu 13 rfl OB rfl (λW j=>Ye ⟨NG (U W.heap.size) 4 4,W.alloc (Z #[str (Lib.itoa x.a),str (ZW x.m x.M),str (Lib.itoa x.wi),str (Lib.itoa x.li)] 9),OE,(Ext.rfl' W).alloc _,?_⟩);have o:=j.trans ((Ext.rfl' W).alloc (Z #[str (Lib.itoa x.a),str (ZW x.m x.M),str (Lib.itoa x.wi),str (Lib.itoa x.li)] 9));have C:(W.alloc (Z #[str (Lib.itoa x.a),str (ZW x.m x.M),str (Lib.itoa x.wi),str (Lib.itoa x.li)] 9)).heap[W.heap.size]? =U (Z #[str (Lib.itoa x.a),str (ZW x.m x.M),str (Lib.itoa x.wi),str (Lib.itoa x.li)] 9):=by rw[Z3,YZ rfl]
    generalize W.alloc (Z #[str (Lib.itoa x.a),str (ZW x.m x.M),str (Lib.itoa x.wi),str (Lib.itoa x.li)] 9)=W5 at o C⊢;generalize W.heap.size=B at C⊢;clear j;go_simp;refine Yu 14 rfl OB rfl (λW j=>Yd (f:=40) (args:= #[str [115,104,111,116],NG (U B) 4 4]) OE ?_);refine(Vu W B (j.get C)).q ?_;refine⟨str A,rfl,Ext.rfl' _,?_⟩;replace o:=o.trans j;clear j C;go_simp;refine ZS [15,16] OB OB ?_;simp only[ZR,YB,YA,YK,YJ]
    repeat (go_big_quiet_step (fail))
    refine XI ?_;refine Yt OB (λW j=> ?_);have Ds:=Cw.trans (o.trans j);have p5:=(o.trans j).cellS p4;go_wp2;go_roundw
    case rel=>exact⟨i+1,OA,by push_cast;rfl,by rw[VH,Eg.out,Fe.out,hH.out];simp,Ds,p5⟩
    case measure=>simp[intOf];omega
 .obtain⟨F,hF⟩:∃F,ZC a b c m L=F:=⟨_,rfl⟩;rw[hF]at P Bb⊢;rw[XB P];have Ab:(F !=0)=NC:=by simpa using P
  go_enter func10,ntmps10;go_wp2_with (go_at_call 18;refine(Bb _ Bi).r λV A2=> ?_;have Ad:=hE.trans A2)
  all_goals
   go_ret2;exact⟨rfl,Ad⟩
end
section
open Go.Lib
def pcT:List UInt8->List (List UInt8)
 |[]=>[]
 |b::l=>if b=10 then[10]::pcT l else match pcT l with
  |[]=>[[b]]
  |x::r=>(b::x)::r
def pcT_flat:∀t,(pcT t).flatten=t
 |[]=>rfl
 |b::l=>by
  have c:=pcT_flat l;rw[pcT];split
  .rename_i h;rw[h,RU,c];rfl
  .split
   .rename_i h;rw[h]at c;rw[<-c];rfl
   .rename_i h;rw[h]at c;rw[<-c];rfl
def dj(b:UInt8)(l:List UInt8):Y1 (b::l)=if b=10 then[]::Y1 l else match Y1 l with
 |[]=>[[b]]
 |x::r=>(b::x)::r:=by
 have c:=KM 10 l;unfold Y1;rw[Y4];cases hC:Y4 10 l with
 |nil=>rw[hC]at c;cases c
 |cons x r=>
  by_cases e:b=10
  .simp only[YZ e];rw[List.getLast?_cons_cons,List.dropLast_cons_of_ne_nil OD];split<;>rfl
  .simp only[XB e];cases r with
   |nil=>cases x<;>simp
   |cons y s=>
    simp only[List.getLast?_cons_cons,List.dropLast_cons_of_ne_nil (List.cons_ne_nil _ _)];split<;>rfl
def pcT_len:∀t,(pcT t).length=(Y1 t).length
 |[]=>rfl
 |b::l=>by
  have c:=pcT_len l;rw[dj,pcT];by_cases e:b=10
  .simp[e,c]
  .simp only[XB e];cases h1:pcT l<;>cases h2:Y1 l<;>rw[h1,h2]at c<;>first|rfl|(simp at c;done)|(simp at c⊢;exact c)
def pcT_at:∀(t:List UInt8)(i:Nat)(B:List UInt8),(Y1 t)[i]? =U B->∃x,(pcT t)[i]? =U x/\pcOk ((pcT t).drop (i+1)).flatten x B
 |[],i,x,h=>by simp[Y1,Y4]at h
 |b::l,i,x,h=>by
  have c:=pcT_at l;have j:=pcT_len l;rw[dj]at h;rw[pcT];by_cases o:b=10
  .simp only[YZ o]at h⊢;cases i with
   |zero=>cases h;exact⟨_,rfl,OD,.inl rfl⟩
   |succ i=>exact c i x h
  .simp only[XB o]at h⊢;cases h1:pcT l with
   |nil=>
    cases h2:Y1 l with
    |cons=>rw[h1,h2]at j;cases j
    |nil=>
     rw[h2]at h;cases i with
     |zero=>cases h;exact⟨_,rfl,by simpa using λe:10=b=>o e.symm,.inr ⟨rfl,rfl,OD⟩⟩
     |succ i=>simp at h
   |cons _ r=>
    cases h2:Y1 l with
    |nil=>rw[h1,h2]at j;cases j
    |cons y s=>
     rw[h2]at h;rw[h1,h2]at c;cases i with
     |zero=>
      cases h;obtain⟨z,C,A,u⟩:=c 0 y rfl;cases C;refine⟨_,rfl,by simpa using⟨λe=>o e.symm,A⟩,?_⟩;rcases u with rfl|⟨rfl,u,_⟩
      .exact .inl rfl
      .exact .inr ⟨rfl,u,OD⟩
     |succ i=>exact c (i+1) x h
def fd(h:(pcT t)[i]? =U x):∃B,(Y1 t)[i]? =U B/\pcOk ((pcT t).drop (i+1)).flatten x B:=by
 obtain⟨hi,_⟩:=YI.1 h;obtain⟨B,e⟩:∃B,(Y1 t)[i]? =U B:=⟨_,YH (by rw[<-pcT_len];exact hi)⟩;obtain⟨y,c,j⟩:=pcT_at t i B e;rw[h]at c;cases c;exact⟨B,e,j⟩
end
section
open Go.Nk Go.RowKit Go.Shelf Go.Proofs Go.Proofs.Tryq
attribute [local instance] k3
def nN{Q:Exit->Act->NL->Prop}{a:Act}(y:Nat)(T:List (List UInt8))(a2:y<w.heap.size)
 (H:∀(yl:Nat)(c:Nat->NL->Prop)(Jx:NL->Prop)(W:NL),(∀i u A B,c i u->u.grownBy A B->(∀r,B=U r->r=y)->c i A)->
   (∀i x u,c i u->T[i]? =U x->YieldAt Fence.wide (n+1) I yl #[str x] u λe A=>(e= NK (.bool NC)/\c (i+1) A/\A.heap[y]? =u.heap[y]?)\/(e= NK (.bool ND)/\Jx A))->
   c 0 W->W.heap[y]? =U (Z #[str T.flatten] 9)->
   CallsIn Fence.wide (n+2) I 124 #[.func (.yield yl) #[] #[],NI (U y)] W λe E=>(∃v,e= NK v)/\(c T.length E\/Jx E))
 (hg:a.eval g= .func (.func 124) #[] #[NI (U y)])(hs:w.heap[y]? =U (Z #[str T.flatten] 9))
 (j:Nat->NL->Prop)(M:NL->Prop)(L:Lft y w.heap.size j)(Ow:Lft y w.heap.size λ_=>M)(h0:j 0 w)(a₁:List UInt8->Act)
 (O2:∀(l:Nat)(x:List UInt8)(W:NL)(K:Act->NL->Prop),K (a₁ x) W->assign.wpIn (Fence.wide.inRound l) (n+1) I (Exit.then K (λ_ _ _=>False)) {tmps:=((#[p]:Array Tmp).zip #[str x]).foldl (λt (p,v)=>t.setIfInBounds p v) a.tmps,defers:=[]} W)
 (W7:∀(l i:Nat)(x:List UInt8)(W:NL),T[i]? =U x->j i W->body.wpIn (Fence.wide.inRound l) (n+1) I (λe _ E=>KeepsFrom w.heap.size W E/\((e= .normal/\E.heap[y]? =W.heap[y]? /\j (i+1) E)\/(e= .ret/\M E))) (a₁ x) W)
 (Wa:∀(D:Nat)(W:NL),w.heap.size<=D->j T.length W->W.heap[D]? =U (.deferred (U []))->Q .normal {a with defers:={target:= .collected D,args:= #[]}::a.defers} W)
 (Wb:∀(D:Nat)(W:NL),w.heap.size<=D->M W->W.heap[D]? =U (.deferred (U []))->Q .ret {a with defers:={target:= .collected D,args:= #[]}::a.defers} W):
 (Code.rangeFunc g #[p] assign body).wpIn Fence.wide (n+3) I Q a w:=by
 refine wpIn_rangeFunc ?_;intro fn a0;obtain⟨rec,z⟩:∃rec:LoopState->Option Code->Loop,rec=λst jp=>{state:=st,pending:=jp,fn,tmps:=a.tmps,params:= #[p],assign,body,defers:=w.heap.size}:=⟨_,rfl⟩
 obtain⟨u,V⟩:∃u,(w.alloc (.deferred (U []))).alloc (.loop (rec .ready J))=u:=⟨_,rfl⟩;have Af:Ext w u:=by rw[<-V];exact((Ext.rfl' w).alloc _).alloc _
 have Cn:u.heap[w.heap.size+1]? =U (.loop (rec .ready J)):=by rw[<-V,Z3,YZ OD]
 have a1:u.heap[w.heap.size]? =U (.deferred (U [])):=by rw[<-V,Z3,XB OD,Z3,YZ rfl]
 have Ci:j 0 u:=L 0 w u J h0 (Uh Af) (λr h=>by cases h)
 refine⟨w.heap.size+1,[{target:= .collected w.heap.size,args:= #[]}],u,{target:= .fn (.func 124) #[NI (U y)],args:= #[.func (.yield (w.heap.size+1)) #[] #[]]},u,124,
  #[.func (.yield (w.heap.size+1)) #[] #[]]++ #[NI (U y)],u,?_,?_,?_,?_,λ_=>by omega,?_⟩
 .rw[<-V,z];exact run_enterLoop_outer _ _ _ _ _
 .simp only[resolve,hg];simp[go_sem]
 .intro f' _;trivial
 .simp[invoke,go_sem]
 refine(H (w.heap.size+1) (λi W=>j i W/\W.heap[w.heap.size+1]? =U (.loop (rec .ready J))/\W.heap[w.heap.size]? =U (.deferred (U []))) (λW=>M W/\W.heap[w.heap.size+1]? =U (.loop (rec .done (U .ret)))/\W.heap[w.heap.size]? =U (.deferred (U []))) u ?_ ?_ ⟨Ci,Cn,a1⟩ (Af.get hs)).mono ?_
 .rintro i X Y B ⟨h1,h2,h3⟩ Ew hr;have keep:∀k o,X.heap[k]? =U o->k≠y->Y.heap[k]? =U o:=λk o C Ab=>(Ew.block k (YF.1 C).1 (λe=>Ab (hr k e.symm))).trans C
  exact⟨L i X Y B h1 Ew λr e=> .inl (hr r e),keep _ _ h2 OA,keep _ _ h3 OA⟩
 .rintro i x W ⟨hi,hl,C⟩ hx;have A5:w.heap.size+1<W.heap.size:=(YF.1 hl).1;have hy:=run_yield (P:=I) (args:= #[str x]) hl (by rw[z];rfl);rw[z]at hy;refine⟨fn,_,assign,body,hy,roundIn_of_wpIn a0 (O2 _ x W _ ?_)⟩;refine⟨_,run_beginRound hl (by rw[z]),?_⟩;have He:(W.putObj (w.heap.size+1) (.loop {rec .ready J with state:= .busy})).heap[w.heap.size+1]? =U (.loop {rec .ready J with state:= .busy}):=World.putObj_heap_same A5;have Ay:(W.putObj (w.heap.size+1) (.loop {rec .ready J with state:= .busy})).heap[w.heap.size]? =U (.deferred (U [])):=(UC OA).trans C;have C6:(W.putObj (w.heap.size+1) (.loop {rec .ready J with state:= .busy})).heap[y]? =W.heap[y]? :=UC OA;refine wpIn_mono (W7 _ i x _ hx (L i W _ _ hi (RP W _ _) λr e=> .inr (by cases e;exact⟨OA,_,hl,rfl⟩))) ?_;rintro e _ O ⟨S5,Oh⟩;have F:=S5.same _ _ OA He rfl;have keep:=S5.same _ _ (XA _) Ay rfl;rcases Oh with⟨rfl,D9,Ka⟩|⟨rfl,Ka⟩
  .have Ch:=run_endRound (P:=I) J F;rw[z]at Ch;refine⟨_,_,Ch,.inl ⟨rfl,⟨L (i+1) O _ _ Ka (RP O _ _) λr e=> .inr (by cases e;exact⟨OA,_,F,rfl⟩),?_,?_⟩,?_⟩⟩
   .rw[z];exact World.putObj_heap_same (YF.1 F).1
   .exact(UC OA).trans keep
   .exact(UC OA).trans (D9.trans C6)
  .have Ch:=run_endRound (P:=I) (U .ret) F;rw[z]at Ch;refine⟨_,_,Ch,.inr ⟨rfl,Ow i O _ _ Ka (RP O _ _) λr e=> .inr (by cases e;exact⟨OA,_,F,rfl⟩),?_,?_⟩⟩
   .rw[z];exact World.putObj_heap_same (YF.1 F).1
   .exact(UC OA).trans keep
 .rintro e A ⟨⟨v,rfl⟩,⟨hi,hl,C⟩|⟨hi,hl,C⟩⟩
  .have hr:=run_endLoop (P:=I) hl (by rw[z];simp);rw[z]at hr;exact⟨J,_,hr,Wa _ _ (XA _) (L _ A _ _ hi (RP A _ _) λr e=> .inr (by cases e;exact⟨OA,_,hl,rfl⟩)) ((UC OA).trans C)⟩
  .have hr:=run_endLoop (P:=I) hl (by rw[z];simp);rw[z]at hr;exact⟨U .ret,_,hr,wpIn_ret (Wb _ _ (XA _) (Ow 0 A _ _ hi (RP A _ _) λr e=> .inr (by cases e;exact⟨OA,_,hl,rfl⟩)) ((UC OA).trans C))⟩
def jZ(j:Nat)(T:List (List UInt8))(hP:Pcs T)(A1:T.flatten.length<=100000)(yl:Nat)(c:Nat->NL->Prop)(Jx:NL->Prop)(W:NL)
 (hJ:∀i P V a0,c i P->P.grownBy V a0->(∀r,a0=U r->r=j)->c i V)
 (hY:∀i x P,c i P->T[i]? =U x->YieldAt Fence.wide (n+1) I yl #[str x] P λe V=>(e= NK (.bool NC)/\c (i+1) V/\V.heap[j]? =P.heap[j]?)\/(e= NK (.bool ND)/\Jx V))
 (h0:c 0 W)(hs:W.heap[j]? =U (Z #[str T.flatten] 9)):
 CallsIn Fence.wide (n+2) I 124 #[.func (.yield yl) #[] #[],NI (U j)] W λe W'=>(∃v,e= NK v)/\(c T.length W'\/Jx W'):=by
 replace A1:Hid (T.flatten.length<=100000):=A1;replace hP:Hid (Pcs T):=hP;refine callsIn_of_wp (fq Tryz.func124) rfl trivial ?_ rfl;simp only[Tryz.ntmps124,UG,YP,XW,Nat.reduceAdd,Nat.reduceSub,TF,TE,TM,TG,YJ,YK]
 gi_wp2
 gi_loopw [3] (λ_ wr=>∃i:Nat,i<=T.length/\c i wr/\wr.heap[j]? =U (Z #[str (T.drop i).flatten] 9)) (λ_ wr=>match wr.cell? j with|some (.string s)=>s.size|_=>0)
 case atStart=>exact⟨0,XL _,h0,hs⟩
 case round=>
  obtain⟨i,hi,F,y⟩:=hrel;have q0:=Z0 y 0;have z0:=Z8 y 0;simp only[YC,YA]at q0;by_cases Ao:i=T.length
  .subst Ao;simp only[UW,List.flatten_nil]at q0
   gi_wp2
   go_end0
   exact⟨⟨_,rfl⟩,.inl F⟩
  .obtain⟨x,hx⟩:∃x,T[i]? =U x:=⟨_,YH OA⟩;obtain⟨B,Y⟩:=hP.out i x hx;have hd:(T.drop i).flatten=x++(T.drop (i+1)).flatten:=by
    obtain⟨A5,rfl⟩:=YI.1 hx;rw[VP A5,RU]
   have Ya:(x++(T.drop (i+1)).flatten).length<=100000:=by
    rw[<-hd];refine XC ?_ A1.out;have:=RJ (λl=>(List.flatten l).length) (QB i T);simp only[List.flatten_append,XH]at this;omega
   rw[hd]at q0 y;have X:=ij (x++(T.drop (i+1)).flatten);have Yb:=hY i x;have hR:Hid ((T.drop (i+1)).flatten=(T.drop (i+1)).flatten):=rfl;clear hY hd hs h0;generalize Yc:(T.drop (i+1)).flatten=R at q0 Ya X Y y;replace Yc:Hid _:=Yc;obtain⟨L,A⟩:∃L,Hid (L=x++R):=⟨_,rfl⟩;have Wc:L.length=x.length+R.length:=by rw[A.out,XH]
   rw[<-A.out]at q0 Ya X y;replace y:Hid _:=y;rcases Y.2 with z|⟨z,Av,Ab⟩
   .have e:Lib.indexByte L 10=B.length:=(by rw[A.out,z,RV];exact cK 10 R B Y.1);rw[e]at X;have Sa:x.length=B.length+1:=(by rw[z];simp);have hb:(B.length:Int)+1<=L.length:=OA;have Aw:0<L.length:=OA;have C1:(L.length:Int)<=100000:=OA;clear Ya Y e;replace z:Hid _:=z;replace Wc:Hid _:=Wc;replace Sa:Hid _:=Sa
    gi_wp2_with (first|(refine⟨trivial,?_⟩;gi_at_call 125;refine(SI.2 (X _)).mono ?_;rintro e u ⟨rfl,rfl⟩))
    rename_i K hK
    gi_region
    have eL:(⟨L.toArray⟩:ByteArray).extract 0 (B.length+1)=⟨x.toArray⟩:=(by rw[A.out,<-Sa.out];exact qJ x R);have eR:(⟨L.toArray⟩:ByteArray).extract (B.length+1) L.length=⟨R.toArray⟩:=(by rw[A.out,<-Sa.out];exact hQ x R);rw[eL,eR];have C:=TZ u j (str R);have Bl:u.grownBy (u.setCell j (str R)).drew (U j):=⟨C.os,C.tape,C.output,C.size,C.block⟩;have H:(u.setCell j (str R)).drew.heap[j]? =U (Z #[str R] 9):=Zb y.out (i:=0) (str R);have No:=hJ i u _ _ F Bl (λr h=>(by cases h;rfl));generalize (u.setCell j (str R)).drew=w3 at H No⊢;obtain⟨a2,M,o,E,S7,S8⟩:=Yb w3 No hx;clear Yb hJ
    gi_wp2
    refine S8.mono ?_;rintro e W3 (⟨rfl,O,H6⟩|⟨rfl,O⟩)
    case inr=>
     gi_wp2
     exact VE (results_none rfl _ _ _) rfl ⟨⟨_,rfl⟩,.inr O⟩
    gi_wp2
    have q9:=Z0 (H6.trans H) 0;go_roundw
    case rel=>exact⟨i+1,OA,O,by rw[H6,H,Yc.out]⟩
    case measure=>rw[q9,q0];show R.toArray.size<L.toArray.size;simp;have:=Wc.out;have:=Sa.out;omega
   .have e:Lib.indexByte L 10= -1:=(by rw[A.out,z,Av,TB];exact AN 10 B Y.1);rw[e]at X;have Aw:0<L.length:=by
     have:0<B.length:=List.length_pos_iff.2 Ab;rw[A.out,z,XH];omega
    have a1:Hid (L=x):=(by show _=_;rw[A.out,Av,TB]);clear Ya Y e;replace z:Hid _:=z;replace Av:Hid _:=Av;replace Wc:Hid _:=Wc
    gi_wp2_with (first|(refine⟨trivial,?_⟩;gi_at_call 125;refine(SI.2 (X _)).mono ?_;rintro e u ⟨rfl,rfl⟩))
    have C:=TZ u j (.string ⟨#[]⟩);have H:(u.setCell j (.string ⟨#[]⟩)).heap[j]? =U (Z #[.string ⟨#[]⟩] 9):=Zb y.out (i:=0) _;have No:=hJ i u _ _ F C (λr h=>(by cases h;rfl));obtain⟨a2,M,o,E,S7,S8⟩:=Yb _ No hx;rw[<-a1.out]at S7;clear Yb hJ;generalize u.setCell j (.string ⟨#[]⟩)=w3 at H No S7 S8⊢;rw[S7]
    gi_wp2
    refine S8.mono ?_;rintro e W3 (⟨rfl,O,H6⟩|⟨rfl,O⟩)
    case inr=>
     gi_wp2
     exact VE (results_none rfl _ _ _) rfl ⟨⟨_,rfl⟩,.inr O⟩
    gi_wp2
    have q9:=Z0 (H6.trans H) 0;go_roundw
    case rel=>exact⟨i+1,OA,O,by rw[H6,H,Yc.out,Av.out]⟩
    case measure=>rw[q9,q0];show(#[]:Array UInt8).size<L.toArray.size;simp;omega
def LJ(d:List UInt8)(m:Bool):Option Nat:=if d.length=0\/9<d.length\/(d.head? =U 48/\(1<d.length\/m=NC))then J else Lib.decFrom 0 d
def Sk(d:List UInt8)(m:Bool):Option Int:=(LJ d m).map λn:Nat=>if m=NC then -(n:Int)else(n:Int)
def numO:List UInt8->Option Int
 |[]=>J
 |b::d=>if b=45 then Sk d NC else Sk (b::d) ND
def cC(b:UInt8)(d:List UInt8):(⟨(b::d).toArray⟩:ByteArray).extract 1 (d.length+1)=⟨d.toArray⟩:=by
 rw[II,List.drop_one,List.tail_cons,XX OA]
def fB{b:UInt8}(h:l[i]? =U b)(c:Lib.digitVal b=J):Lib.decFrom 0 l=J:=by
 cases hd:Lib.decFrom 0 l with
 |none=>rfl
 |some n=>
  obtain⟨d,e⟩:=Lib.digit_of_decFrom l 0 n hd i b h;rw[c]at e;cases e
def qu(b:UInt8):(Lib.digitVal b).isSome=S0 b.toNat:=by
 unfold Lib.digitVal S0;by_cases h:48<=b.toNat/\b.toNat<=57
 .rw[YZ h,VB OA];rfl
 .rw[XB h,XV OA];rfl
def bu(b:UInt8)(d:List UInt8)(h:0<(⟨(b::d).toArray⟩:ByteArray).size):(⟨(b::d).toArray⟩:ByteArray)[0]'h=b:=rfl
def jI(a b:UInt8)(d:List UInt8):(⟨(a::b::d).toArray⟩:ByteArray).extract 1 (d.length+1+1)=⟨(b::d).toArray⟩:=cC a (b::d)
attribute [local go_sem] cC jI bu
def Hj{c:UInt8}(h:9<t.length+1\/(c=48/\(0<t.length\/m=NC))):Sk (c::t) m=J:=by
 rw[Sk,LJ,YZ]
 .rfl
 .rcases h with h|⟨e,j⟩
  .exact .inr (.inl h)
  .exact .inr (.inr ⟨by rw[e];rfl,j.imp (λh=>by simp;omega) id⟩)
def DQ{c:UInt8}(h:t.length+1<=9)(j:¬(c=48/\(0<t.length\/m=NC))):Sk (c::t) m=(Lib.decFrom 0 (c::t)).map λn:Nat=>if m=NC then -(n:Int)else(n:Int):=by
 rw[Sk,LJ,XB];rintro(h1|h1|⟨h1,e⟩)
 .cases h1
 .simp at h1;omega
 .exact j ⟨by simpa using h1,e.imp (λh=>by simp at h;omega) id⟩
def gQ(h:Lib.decFrom 0 l=U k)(c:l.length<=9):(k:Int)<=999999999:=by
 have e:=Lib.decFrom_lt l 0 k h;have e:10 ^ l.length<=10 ^ 9:=SF OA c;omega
def fa(h:Lib.decFrom 0 l=U k)(c:l.length<=8):(k:Int)<=99999999:=by
 have e:=Lib.decFrom_lt l 0 k h;have e:10 ^ l.length<=10 ^ 8:=SF OA c;omega
def LR(s:List UInt8)(w:NL)(hl:s.length<=100000):NW I 96 #[str s] w (OJ (.tuple #[NE NF ((numO s).getD 0),.bool (numO s).isSome]) w):=by
 have B:=fun(n:Int) w=>N7 n 1 9 w
 rcases s with _|⟨b,d⟩
 .go_enter fq Tryz.func96,Tryz.ntmps96
  go_wp2_with (first|go_at_call 52;refine(B _ _).q ?_)
  go_ret2;exact⟨rfl,rfl⟩
 obtain⟨r,e⟩:∃r,numO (b::d)=r:=⟨_,rfl⟩;rw[e]
 have L:b≠45->((b.toNat:Int)==45)=ND:=λj=>by
  rw[XQ];exact λh=>j (QK.1 (by show b.toNat=45;omega))
 by_cases j:b=45
 case' pos=>
  subst j;rw[numO,YZ rfl]at e;obtain⟨m,z⟩:∃m,Hid (m=NC):=⟨_,rfl⟩;rw[<-z.out]at e;rcases d with _|⟨c,t⟩
  .subst e;go_enter fq Tryz.func96,Tryz.ntmps96
   go_wp2_with (first|go_at_call 52;refine(B _ _).q ?_)
   go_ret2;exact⟨rfl,rfl⟩
 case' neg=>
  rw[numO,XB j]at e;replace L:=L j;clear j;obtain⟨m,z⟩:∃m,Hid (m=ND):=⟨_,rfl⟩;rw[<-z.out]at e
  rename UInt8=>c
  rename List UInt8=>t
 all_goals
  have y:=B (t.length+1);by_cases M:t.length+1<=9
  case' neg=>
   rw[XV OA]at y;rw[Hj (.inl OA)]at e;subst e;clear B;go_enter fq Tryz.func96,Tryz.ntmps96
   go_wp2_with (first|go_at_call 52;refine(y _).q ?_)
   go_ret2;exact⟨rfl,rfl⟩
  case' pos=>
   rw[VB OA]at y;clear B;by_cases u:c=48/\(0<t.length\/m=NC)
   .obtain⟨rfl,u⟩:=u;rw[Hj (.inr ⟨rfl,u⟩)]at e;subst e;by_cases T:0<t.length
    case' neg=>
     have K:=u.resolve_left T
     first|exfalso;rw[z.out]at K;cases K;done|clear K
    all_goals
     go_enter fq Tryz.func96,Tryz.ntmps96
     go_wp2_with (first|go_at_call 52;refine(y _).q ?_)
     go_ret2;exact⟨rfl,rfl⟩
   .rw[DQ M u]at e;obtain⟨D,F⟩:∃D,Hid (D=c::t):=⟨_,rfl⟩;have Y:D.length<=9:=(by rw[F.out];exact M);by_cases O:c=48
    case' pos=>
     subst O;obtain rfl:t=[]:=by
      cases t with|nil=>rfl|cons=>exact absurd ⟨rfl,.inl OD⟩ u
     first|exfalso;exact u ⟨rfl,.inr z.out⟩;done|skip
    case' neg=>
     have Dq:((c.toNat:Int)==48)=ND:=by
      rw[XQ];exact λh=>O (QK.1 (by show c.toNat=48;omega))
    all_goals
     go_enter fq Tryz.func96,Tryz.ntmps96
     go_wp2_with (first|go_at_call 52;refine(y _).q ?_)
     rw[<-F.out]at e⊢;replace e:Hid _:=e;clear F y;go_loopw [5,6] (λv5 E wr=>∃i k:Nat,v5= NE NF k/\E= NE NF i/\i<=D.length/\wr=w/\Hid (Lib.decFrom 0 (D.take i)=U k)) (λ_ E _=>D.length - (intOf E).toNat)
     case atStart=>exact⟨0,0,rfl,rfl,XL _,rfl,rfl⟩
     case round=>
      obtain⟨i,k,rfl,rfl,hi,rfl,o⟩:=hrel;by_cases Ao:i=D.length
      .subst Ao;have X:=gQ o.out (by rw[VN];omega);have H:=o.out;rw[TC]at H;have A:=e.out;rw[H,z.out]at A;replace A:Hid _:=A;clear o H e;go_wp2;go_ret2;rw[<-A.out];exact⟨rfl,rfl⟩
      .have A5:i<D.length:=OA;obtain⟨b,j⟩:∃b,D[i]? =U b:=⟨_,YH A5⟩;have X:=fa o.out (by rw[VN];omega);have P:=IW j A5;have C:=λw=>BR b w
       cases hd:S0 b.toNat with
       |false=>
        rw[hd]at C;have A:r=J:=by
         rw[<-e.out,fB j (by have:=qu b;rw[hd]at this;simpa using this)];rfl
        subst A;clear hd e o
        go_wp2_with (first|go_at_call 98;refine(C _).q ?_)
        go_ret2;exact⟨rfl,rfl⟩
       |true=>
        rw[hd]at C;simp only[S0,XE]at hd;have V:Hid (Lib.decFrom 0 (D.take (i+1))=U (k*10+(b.toNat - 48))):=by
         refine Lib.decFrom_take D i 0 k b _ o.out j ?_;rw[Lib.digitVal,YZ OA]
        clear o
        go_wp2_with (first|go_at_call 98;refine(C _).q ?_)
        exact⟨⟨i+1,k*10+(b.toNat - 48),by congr 1;omega,by push_cast;rfl,A5,trivial,V⟩,by simp[intOf];omega⟩
def cG(t:NM)(w:NL):NW I 47 #[.nilIface,t] w (OJ (.bool ND) w):=by
 go_enter fq Tryz.func47,Tryz.ntmps47;go_wp2;go_ret;simp
def qs{b:UInt8}(h:([48,49,50,51,52,53,54,55,56,57]:List UInt8).contains b=NC):Po b:=by
 simp only[List.contains_eq_mem,XG,XO,UE,XE]at h;rcases h with rfl|rfl|rfl|rfl|rfl|rfl|rfl|rfl|rfl|rfl<;>exact⟨OC,OC⟩
def F3{p:UInt8->Bool}:∀{l:List UInt8},l.dropWhile p=[]->∀b∈l,p b=NC
 |[],_=>λb h=>by cases h
 |b::l,h=>by
  rw[List.dropWhile_cons]at h;split at h
  .rename_i hb;exact YD.2 ⟨hb,F3 h⟩
  .cases h
def Bm{p:UInt8->Bool}{c:UInt8}{t:List UInt8}:∀{l:List UInt8},l.dropWhile p=c::t->p c=ND
 |b::l,h=>by
  rw[List.dropWhile_cons]at h;split at h
  .exact Bm h
  .rename_i hb;cases h;simpa using hb
def jC(h:Lib.trimS d [48,49,50,51,52,53,54,55,56,57]=[]):∀b∈d,Po b:=by
 unfold Lib.trimS Lib.trimRightS Lib.trimLeftS at h;have e:=F3 h;cases hc:d.reverse.dropWhile (λb=>([48,49,50,51,52,53,54,55,56,57]:List UInt8).contains b)with
 |nil=>exact λb j=>qs (F3 hc b (List.mem_reverse.2 j))
 |cons a r=>
  have c:=e a (by rw[hc];simp);rw[Bm hc]at c;cases c
def dec_all:∀(d:List UInt8)(a:Nat),(∀b∈d,Po b)->∃n,Lib.decFrom a d=U n
 |[],a,_=>⟨a,rfl⟩
 |b::d,a,h=>by
  have c:=h b YY;unfold Po at c;rw[Lib.decFrom,Lib.digitVal,YZ OA];exact dec_all d _ λc e=>h c (YW _ e)
def mA(h:Lib.trimS d [48,49,50,51,52,53,54,55,56,57]≠[]):Lib.decFrom 0 d=J:=by
 cases hd:Lib.decFrom 0 d with
 |none=>rfl
 |some n=>
  refine absurd (nB λb e=> ?_) h;obtain⟨i,hi⟩:=List.getElem?_of_mem e;obtain⟨x,c⟩:=Lib.digit_of_decFrom d 0 n hd i b hi;unfold Lib.digitVal at c;split at c
  .unfold Po;omega
  .cases c
def ErrV{α:Type}(o:Option α)(v:NM):Prop:=match o with
 |none=>∃t x,v= .iface t x
 |some _=>v= .nilIface
def NumV(o:Option Int)(e:Ending):Prop:=∃v,e= NK (.tuple #[NE NF (o.getD 0),v])/\ErrV o v
attribute [local go_sem] bu
def ES(s d:List UInt8)(m:Bool)(o:Option Int)(w:NL)(hl:d.length<=100000)(C:Lib.trimPrefix s [45]=d)(L:Lib.hasPrefix s [45]=m)(z:Sk d m=o)(P:∀n,o=U n->s.length<=18/\Lib.atoi s=U n)(E:ErrF w):
 NW I 131 #[str s] w λe Y=>NumV o e/\Ext w Y:=by
 have H:=λw=>lM s [45] w
 rw[C,L]at H;clear C L;obtain⟨te,ve,E⟩:=E;by_cases A:d=[]\/9<d.length
 case' pos=>
  obtain rfl:J=o:=by
   rw[<-z,Sk,LJ,YZ (by rcases A with rfl|h;exact .inl rfl;exact .inr (.inl h))];rfl
  have a0:¬(1<=d.length/\d.length<=9):=by rcases A with rfl|h<;>simp<;>omega
  have B:NL:=w
 case' neg=>
  obtain⟨c,t,rfl⟩:∃c t,d=c::t:=by cases d with|nil=>exact absurd (.inl rfl) A|cons c t=>exact⟨c,t,rfl⟩
  have X:t.length+1<=9:=by simp at A;omega
  clear A;have B:=λw=>pT (c::t) w OD (by simp;omega)
  by_cases u:Lib.trimS (c::t) [48,49,50,51,52,53,54,55,56,57]=[]
  case' neg=>
   obtain rfl:J=o:=by
    rw[<-z];by_cases j:c=48/\(0<t.length\/m=NC)
    .rw[Hj (.inr j)]
    .rw[DQ X j,mA u];rfl
   generalize Lib.trimS (c::t) [48,49,50,51,52,53,54,55,56,57]=T at B u;obtain⟨x,T,rfl⟩:∃c t,T=c::t:=by cases T with|nil=>exact absurd rfl u|cons c t=>exact⟨c,t,rfl⟩
  case' pos=>
   rw[u]at B;obtain⟨n,O⟩:=dec_all (c::t) 0 (jC u);clear u;by_cases j:c=48/\(0<t.length\/m=NC)
   case' neg=>
    rw[DQ X j,O]at z;subst z;obtain⟨V,y⟩:=P _ rfl;have y:=λw=>mw s _ w V y
    clear P;by_cases C:c=48
    case' pos=>
     subst C;obtain rfl:t=[]:=SL.1 (Nat.le_zero.1 (Nat.not_lt.1 λh=>j ⟨rfl,.inl h⟩));obtain rfl:m=ND:=by cases m with|true=>exact absurd ⟨rfl,.inr rfl⟩ j|false=>rfl
    case' neg=>
     have L:((c.toNat:Int)==48)=ND:=by
      rw[XQ];exact λh=>C (QK.1 (by show c.toNat=48;omega))
    all_goals
     clear O j;go_enter fq Tryz.func131,Tryz.ntmps131
     go_wp2_with (first|go_at_call 158;refine(H _).q ?_|go_at_call 65;refine(WK _ _ _ _).q ?_|go_at_call 159;refine(B _).r λw2 F=> ?_|go_at_call 160;refine(y _).r λw3 Ad=> ?_)
     all_goals
      go_ret2;exact⟨⟨_,rfl,rfl⟩,F.trans Ad⟩
   case' pos=>
    obtain rfl:J=o:=(by rw[<-z,Hj (.inr j)]);obtain⟨rfl,j⟩:=j;by_cases u:0<t.length
    case' neg=>obtain rfl:=j.resolve_left u
    all_goals clear O
 all_goals
  try clear z P
  go_enter fq Tryz.func131,Tryz.ntmps131
  go_wp2_with (first|(go_at_call 158;refine(H _).q ?_;have M:=Ext.rfl' w)|go_at_call 65;refine(WK _ _ _ _).q ?_|go_at_call 159;refine(B _).r λw2 F=> ?_;replace E:=F.cellS E;replace M:=M.trans F)
  try clear ‹1<(t.length:Int)+1›
  rename_i K hK
  go_region
  all_goals
   refine hK _ _ ?_;go_wp2;go_ret2;exact⟨⟨_,rfl,te,ve,rfl⟩,M.drew⟩
def ar{n:Int}(h:Sk d m=U n):∃k:Nat,d.length<=9/\Lib.decNat d=U k/\n=if m=NC then -(k:Int)else(k:Int):=by
 unfold Sk LJ at h;by_cases e:d.length=0\/9<d.length\/(d.head? =U 48/\(1<d.length\/m=NC))
 .rw[YZ e]at h;cases h
 .rw[XB e]at h;simp only[not_or]at e;cases hk:Lib.decFrom 0 d with
  |none=>rw[hk]at h;cases h
  |some k=>
   rw[hk]at h;cases d with|nil=>exact absurd rfl e.1|cons c t=>exact⟨k,OA,by rw[Lib.decNat];exact hk,(YT h).symm⟩
def IX(s:List UInt8)(w:NL)(u:s.length<=100000)(o:ErrF w):NW I 131 #[str s] w λe A=>NumV (numO s) e/\Ext w A:=by
 cases s with
 |nil=>exact ES [] [] ND _ w u rfl rfl rfl (λn h=>by cases h) o
 |cons b t=>
  by_cases j:b=45
  .subst j;rw[numO,YZ rfl];refine ES _ t NC _ w (by simp at u;omega) ?_ rfl rfl (λn h=> ?_) o
   .rw[Lib.trimPrefix,show Lib.hasPrefix (45::t) [45]=NC by simp[Lib.hasPrefix]];rfl
   .obtain⟨k,B,c,rfl⟩:=ar h;exact⟨by simp;omega,by rw[Lib.atoi,c];rfl⟩
  .rw[numO,XB j];have z:Lib.hasPrefix (b::t) [45]=ND:=by
    have c:(45==b)=ND:=(by rw[XQ];exact λe=>j e.symm);simp[Lib.hasPrefix,List.isPrefixOf,c]
   refine ES _ (b::t) ND _ w u (by rw[Lib.trimPrefix,z];rfl) z rfl (λn h=> ?_) o;obtain⟨k,B,c,rfl⟩:=ar h;have y:(b==43)=ND:=by
    rw[XQ];rintro rfl;rw[Lib.decNat,XB OD,Lib.decFrom]at c;cases c
   exact⟨OA,by rw[Lib.atoi,XQ.2 j,y,c];rfl⟩
def numsO:List (List UInt8)->Option (List Int)
 |[]=>U []
 |x::r=>match numO x,numsO r with
  |some n,U l=>U (n::l)
  |_,_=>J
def GW{x:List UInt8}{n:Int}(c:numO x=U n):∀{P:List (List UInt8)}{l:List Int},numsO P=U l->numsO (P++[x])=U (l++[n])
 |[],l,h=>by cases h;simp[numsO,c]
 |y::P,l,h=>by
  rw[numsO]at h;split at h
  .rename_i m r h1 h2;cases h;rw[YK,numsO,h1,GW c h2];rfl
  .cases h
def GU{x:List UInt8}(c:numO x=J):∀{P:List (List UInt8)},x∈P->numsO P=J
 |y::P,h=>by
  rw[numsO];rcases XG.1 h with rfl|h
  .rw[c]
  .rw[GU c h];cases numO y<;>rfl
def u57x:Tryp.prog.underlying 57=U (.slice 3):=(underlying_eq 57).trans Tryz.underlying57
def i3x:Tryp.prog.info? 3=U Tryz.t3:=OB
def K5(g j n F:Nat)(T:List (List UInt8))(w:NL)(B:T.length=n)(hn:n<=100)(H:CT w g j T)(hw:g<w.heap.size)(K:∀x∈T,x.length<=100000):
 NW I 94 #[NG (U ⟨g,j,J⟩) n F] w λe O=>∃v,e= NK (.tuple #[v,.bool (numsO T).isSome])/\Hid (∀l,numsO T=U l->OwnI w.heap.size O v l)/\Ext w O:=by
 replace H:Hid (CT w g j T):=H;replace B:Hid (T.length=n):=B;replace K:Hid _:=K;go_enter fq Tryz.func94,Tryz.ntmps94;go_wp2;go_loopw [4,5,6,7] (λv4 M _ _ wr=>∃(i:Nat)(l:List Int),M= NE NF i/\i<=n/\l.length=i/\OwnI w.heap.size wr v4 l/\Ext w wr/\Hid (numsO (T.take i)=U l)) (λ_ M _ _ _=>n - (intOf M).toNat)
 case atStart=>exact⟨0,[],rfl,XL _,rfl,VJ _ _ _ _,Ext.rfl' w,rfl⟩
 case round=>
  obtain⟨i,l,rfl,hi,Fd,L,o,A⟩:=hrel;by_cases Ao:i=n
  .subst Ao;have c:Hid (numsO T=U l):=by
    have:=A.out
    rwa [XX (by have:=B.out;omega)]at this
   clear A;go_wp2;go_ret2;exact⟨_,by rw[c.out];rfl,λl' h=>by rw[c.out]at h;cases h;exact L,o⟩
  .have A5:i<n:=OA
   obtain⟨x,z⟩:∃x,T[i]? =U x:=⟨_,YH (by have:=B.out;omega)⟩;have q0:=o.cellS (H.out i x z);have C:=YQ z;have E:=λw=>LR x w (K.out x C)
   cases Av:numO x with
   |none=>
    have c:Hid (numsO T=J):=GU Av C;rw[Av]at E;clear z Av C
    go_wp2_with (first|go_at_call 96;refine(E _).q ?_)
    go_ret2;refine⟨_,by rw[c.out];rfl,?_,o⟩;show∀l,numsO T=U l->_;intro l' h;rw[c.out]at h;cases h
   |some y=>
    have c:Hid (numsO (T.take (i+1))=U (l++[y])):=by
     show _=_;rw[VL,z];exact GW Av A.out
    rw[Av]at E;have Fx:l.length+1<=maxLen:=(by simp[maxLen];omega);have X:(l.length+1)*8<=140737488355328:=OA;have V:Hid (l.length=i):=Fd;clear z Av C A Fd
    go_wp2_with (first
     |(go_at_call 96;refine(E _).q ?_)
     |(at_builtin
       refine UB _ rfl _ _ _ rfl w.heap.size 3 Tryz.t3 (NE NF 0) 1 8 u57x i3x t3z t3s t3b rfl OA _ _ _ rfl (L.alloc _) _ 1 1 [NE NF y] rfl rfl (WU _ _ _) (by intro u P;simp at P;subst P;rfl) Fx X (by have:=o.size;simp;omega) ?_;intro _ Y Ae A6 _;have Ad:Ext w Y:=(o.alloc _).grown A6 (λk hk=>(L.lt k hk).1)))
    exact⟨⟨i+1,l++[y],by push_cast;rfl,OA,by rw[XH,V.out];rfl,by simpa[OwnI]using Ae,Ad,c⟩,by simp[intOf];omega⟩
def twoO:Option Int->Option Int->Option (Int×Int)
 |some x,U y=>if x=y then J else U (x,y)
 |_,_=>J
def Y3(s:List UInt8):Option (Int×Int):=if 0<=Lib.index s [46,46]then twoO (numO (s.take (Lib.index s [46,46]).toNat)) (numO (s.drop ((Lib.index s [46,46]).toNat+2)))else(numO s).map λx=>(x,x)
def EN(s:List UInt8)(i:Nat):Lib.occAt s [46,46] i=NC↔s[i]? =U 46/\s[i+1]? =U 46:=by
 have h:s[i]? =(s.drop i)[0]? :=by rw[List.getElem?_drop,RS]
 have c:s[i+1]? =(s.drop i)[1]? :=by rw[List.getElem?_drop]
 rw[h,c,Lib.occAt];generalize s.drop i=t;rcases t with _|⟨a,_|⟨b,t⟩⟩<;>simp[List.isPrefixOf]<;>exact⟨fun⟨c,e⟩=>⟨c.symm,e.symm⟩,fun⟨c,e⟩=>⟨c.symm,e.symm⟩⟩
def ex_to(l:List UInt8)(b:Nat):(⟨l.toArray⟩:ByteArray).extract 0 b=⟨(l.take b).toArray⟩:=by rw[II];rfl
attribute [local go_sem] ex_to dn
def eq46{b:UInt8}(h:b≠46):((b.toNat:Int)==46)=ND:=by
 rw[XQ];exact λe=>h (QK.1 (by show b.toNat=46;omega))
def aZ{o:Option (Int×Int)}(E:Y3 s=o)(c:act.tmps.getD 2 NQ= NI (U w.heap.size))(h:act.tmps.getD 3 NQ= .bool o.isSome)(j:act.defers=[])(y:∀q,o=U q->q=(a,b))
 (B:W.cell? ⟨w.heap.size,0,J⟩=U (NE NF a))(C:W.cell? ⟨w.heap.size,1,J⟩=U (NE NF b))(u:Ext w W):
 bodyPost I Tryz.f95 (λe z=>∃a b,e= NK (.tuple #[NJ #[NE NF a,NE NF b],.bool (Y3 s).isSome])/\Hid (∀q,Y3 s=U q->q=(a,b))/\Ext w z) Exit.ret act W:=by
 subst E;refine VE (v:= .tuple #[NJ #[NE NF a,NE NF b],.bool (Y3 s).isSome]) ?_ j ⟨a,b,rfl,y,u⟩;show(results Tryz.f95 _).run I _=_;have A:Tryz.f95.results= #[.cell 2 49,.tmp 3]:=OB
 unfold results;rw[A];simp only[Array.getD_eq_getD_getElem?]at c h;simp[go_sem,c,h,B,C]
def HG(s:List UInt8)(w:NL)(hl:s.length<=100000):
 NW I 95 #[str s] w λe w'=>∃a b,e= NK (.tuple #[NJ #[NE NF a,NE NF b],.bool (Y3 s).isSome])/\Hid (∀q,Y3 s=U q->q=(a,b))/\Ext w w':=by
 have M:Ext w (w.alloc (Z OH 49)):=(Ext.rfl' w).alloc _;have z:(w.alloc (Z OH 49)).heap[w.heap.size]? =U (Z OH 49):=by rw[Z3,YZ rfl]
 have u:∀a b,(((w.alloc (Z OH 49)).setCell w.heap.size (NE NF a)).setCell ⟨w.heap.size,1,J⟩ (NE NF b)).cell? ⟨w.heap.size,0,J⟩=U (NE NF a)/\(((w.alloc (Z OH 49)).setCell w.heap.size (NE NF a)).setCell ⟨w.heap.size,1,J⟩ (NE NF b)).cell? ⟨w.heap.size,1,J⟩=U (NE NF b)/\Ext w (((w.alloc (Z OH 49)).setCell w.heap.size (NE NF a)).setCell ⟨w.heap.size,1,J⟩ (NE NF b)):=λa b=>by
  have O:=Zb (Zb z (i:=0) (NE NF a)) (i:=1) (NE NF b);have s0:=Z0 O 0;have s1:=Z0 O 1;exact⟨s0,s1,(M.setCell _ _ (XA _)).setCell _ _ (XA _)⟩
 have q0:=Z0 z 0;have q1:=Z0 z 1;have z0:=Z8 z 0;have z1:=Z8 z 1;simp only[YC,YA,YB]at q0 q1;clear z M;replace u:Hid _:=u;go_enter fq Tryz.func95,Tryz.ntmps95;go_wp2;generalize Fm:w.alloc (Z OH 49)=Y at*;clear Fm;go_loopw [4] (λK wr=>∃i:Nat,K= NE NF i/\i<=s.length/\wr=Y/\Hid (∀j,j<i->Lib.occAt s [46,46] j=ND)) (λK _=>s.length - (intOf K).toNat)
 case atStart=>exact⟨0,rfl,XL _,rfl,λj h=>by omega⟩
 case round=>
  obtain⟨i,rfl,hi,rfl,B⟩:=hrel;by_cases Ao:i+1<s.length
  .obtain⟨b,hb⟩:∃b,s[i]? =U b:=⟨_,YH OA⟩;obtain⟨c,E⟩:∃c,s[i+1]? =U c:=⟨_,YH Ao⟩;have X:=IW hb (by show i<s.toArray.size;simp;omega);have V:=IW E (by show i+1<s.toArray.size;simp;omega)
   have o:¬(b=46/\c=46)->Hid (∀j,j<i+1->Lib.occAt s [46,46] j=ND):=λh j hj=>by
    by_cases L:j=i
    .subst L;rw[<-Bool.not_eq_true,EN,hb,E];simpa using h
    .exact B.out j OA
   by_cases H:b=46
   .subst H;by_cases A:c=46
    .subst A;have C:Hid (Y3 s=twoO (numO (s.take i)) (numO (s.drop (i+2)))):=by
      show _=_;rw[Y3,Lib.index_first OA ((EN s i).2 ⟨hb,E⟩) B.out,YZ OA];rfl
     have F:=λw=>LR (s.take i) w (by rw[VN];omega)
     have P:=λw=>LR (s.drop (i+2)) w (by rw[List.length_drop];omega)
     clear o B hb E;cases h1:numO (s.take i)<;>cases h2:numO (s.drop (i+2))
     case' some.some x y=>
      by_cases T:x=y
      case' neg=>have Ab:(x==y)=ND:=XQ.2 T
      case' pos=>subst T
     all_goals
      rw[h1]at F;rw[h2]at P;rw[h1,h2]at C;replace C:Hid (_=_):=C;clear h1 h2
      go_wp2_with (first|go_at_call 96;(with_reducible refine(F _).q ?_)|go_at_call 96;(with_reducible refine(P _).q ?_))
      exact aZ C.out rfl (by first|rfl|(simp[twoO, *];done)) rfl (by intro q h;first|cases h|(simp[twoO, *]at h;done)|(simp[twoO, *]at h;exact h.symm)) (u.out _ _).1 (u.out _ _).2.1 (u.out _ _).2.2
    .have Dq:=eq46 A;have z:=o λh=>A h.2
     clear o B hb E;go_wp2;exact⟨⟨i+1,by push_cast;rfl,OA,trivial,z⟩,by simp[intOf];omega⟩
   .have Dq:=eq46 H;have z:=o λh=>H h.1
    clear o B hb E;go_wp2;exact⟨⟨i+1,by push_cast;rfl,OA,trivial,z⟩,by simp[intOf];omega⟩
  .have C:Hid (Y3 s=(numO s).map λx=>(x,x)):=by
    show _=_;rw[Y3,Lib.index_none,XB OC];intro j hj;by_cases L:j<i
    .exact B.out j L
    .rw[<-Bool.not_eq_true,EN,List.getElem?_eq_none (i:=j+1) OA];simp
   have F:=λw=>LR s w hl
   clear B;cases h1:numO s
   all_goals
    rw[h1]at F C;clear h1
    go_wp2_with (first|go_at_call 96;(with_reducible refine(F _).q ?_))
    exact aZ C.out rfl rfl rfl (by intro q h;first|cases h;done|cases h;rfl) (u.out _ _).1 (u.out _ _).2.1 (u.out _ _).2.2
def CZ(g j n M:Nat)(T:List (List UInt8))(w:NL)(H:T.length=n)(hn:n<=100)(O:CT w g j T)(hw:g<w.heap.size)(P:∀x∈T,x.length<=100000)(C:ErrF w):
 NW I 128 #[NG (U ⟨g,j,J⟩) n M] w λe X=>∃v u,e= NK (.tuple #[v,u])/\ErrV (numsO T) u/\Hid (∀l,numsO T=U l->OwnI w.heap.size X v l)/\Ext w X:=by
 replace O:Hid (CT w g j T):=O;replace H:Hid (T.length=n):=H;replace P:Hid _:=P;replace C:Hid (ErrF w):=C;go_enter fq Tryz.func128,Tryz.ntmps128;go_wp2;go_loopw [4,11] (λv4 o wr=>∃(i:Nat)(l:List Int),o= NE NF i/\i<=n/\l.length=i/\OwnI w.heap.size wr v4 l/\Ext w wr/\Hid (numsO (T.take i)=U l)) (λ_ o _=>n - (intOf o).toNat)
 case atStart=>exact⟨0,[],rfl,XL _,rfl,VJ _ _ _ _,Ext.rfl' w,rfl⟩
 case round=>
  obtain⟨i,l,rfl,hi,Fd,V,z,F⟩:=hrel;by_cases Ao:i=n
  .subst Ao;have c:Hid (numsO T=U l):=by
    have:=F.out
    rwa [XX (by have:=H.out;omega)]at this
   clear F;go_wp2;go_ret2;exact⟨_,_,rfl,by rw[c.out];rfl,λl' h=>by rw[c.out]at h;cases h;exact V,z⟩
  .have A5:(i:Int)<(n:Int):=OA
   obtain⟨x,B⟩:∃x,T[i]? =U x:=⟨_,YH (by have:=H.out;omega)⟩;have q0:=z.cellS (O.out i x B);have K:=YQ B;have L:=λw C=>IX x w (P.out x K) C
   have A:=C.out.ext z;cases Av:numO x with
   |none=>
    have c:Hid (numsO T=J):=GU Av K;rw[Av]at L;replace A:Hid _:=A;clear B Av K
    go_wp2_with (first|(go_at_call 131;refine(L _ A.out).mono ?_;rintro e w2 ⟨⟨v,rfl,_,_,rfl⟩,E⟩))
    go_ret2;exact⟨_,_,rfl,by rw[c.out];exact⟨_,_,rfl⟩,λl' h=>(by rw[c.out]at h;cases h),z.trans E⟩
   |some y=>
    have c:Hid (numsO (T.take (i+1))=U (l++[y])):=by
     show _=_;rw[VL,B];exact GW Av F.out
    rw[Av]at L;have Fx:l.length+1<=maxLen:=(by simp[maxLen];omega);have Ef:(l.length+1)*8<=140737488355328:=OA;have R3:Hid (l.length=i):=Fd;replace A:Hid _:=A;clear B Av K F Fd
    go_wp2_with (first
     |(go_at_call 131;refine(L _ A.out).mono ?_;rintro e w2 ⟨⟨v,rfl,rfl⟩,E⟩)
     |(at_builtin
       refine UB _ rfl _ _ _ rfl w.heap.size 3 Tryz.t3 (NE NF 0) 1 8 u57x i3x t3z t3s t3b rfl OA _ _ _ rfl ((ZT V E).alloc _) w2.heap.size 1 1 [NE NF y] rfl rfl (WU _ _ _) (by intro u Y;simp at Y;subst Y;rfl) Fx Ef (by have:=z.size;have:=E.size;simp;omega) ?_;intro _ w3 Ae A6 _;have Ad:Ext w w3:=((z.trans E).alloc _).grown A6 (λk hk=>(V.lt k hk).1)))
    go_roundw
    case rel=>exact⟨i+1,l++[y],by push_cast;rfl,OA,by rw[XH,R3.out];rfl,by simpa[OwnI]using Ae,Ad,c⟩
    case measure=>simp[intOf];omega
def CJ(o:Option (Int×Int))(e:Ending):Prop:=∃(a b:Int)(v:NM),e= NK (.tuple #[NJ #[a,b],v])/\ErrV o v/\∀q,o=U q->q=(a,b)
def km{o:Option (Int×Int)}(h:act.tmps.getD 2 NQ= NI (U w.heap.size))(u:act.tmps.getD 3 NQ=v)(y:act.defers=[])(B:ErrV o v)(A:∀q,o=U q->q=(a,b))
 (C:W.heap[w.heap.size]? =U (Z OH 49))(z:Ext w W):
 bodyPost I Tryz.f129 (λe c=>CJ o e/\Ext w c) Exit.ret act ((W.setCell w.heap.size (NE NF a)).setCell ⟨w.heap.size,1,J⟩ (NE NF b)):=by
 have c:=Zb (Zb C (i:=0) (NE NF a)) (i:=1) (NE NF b);have e:=Z0 c 0;have j:=Z0 c 1;simp only[VM,UJ,UU,YC,YA,YB]at e j;refine VE (v:= .tuple #[NJ #[a,b],v]) ?_ y ⟨⟨a,b,v,rfl,B,A⟩,(z.setCell _ _ (XA _)).setCell _ _ (XA _)⟩;show(results Tryz.f129 _).run I _=_;have c:Tryz.f129.results= #[.cell 2 49,.tmp 3]:=OB
 unfold results;rw[c];simp only[Array.getD_eq_getD_getElem?]at h u;simp[go_sem,h,u,e,j]
def JG(s:List UInt8)(w:NL)(hl:s.length<=100000)(B:MaxL w)(j:ErrF w):NW I 129 #[str s] w λe w'=>CJ (Y3 s) e/\Ext w w':=by
 have Wd:=λw B=>rl s [46,46] w OA B
 obtain⟨p,q,two,z⟩:∃p q two,Lib.cut s [46,46]=(p,q,two):=⟨_,_,_,rfl⟩;have H:Hid (Y3 s=if two=NC then twoO (numO p) (numO q)else(numO p).map λx=>(x,x))/\p.length<=100000/\q.length<=100000:=by
  unfold Lib.cut at z;unfold Y3;split at z
  .rename_i h;cases z;exact⟨by show _=_;rw[YZ h];rfl,by rw[VN];omega,by rw[List.length_drop];omega⟩
  .rename_i h;cases z;exact⟨by show _=_;rw[XB h];rfl,hl,OD⟩
 obtain⟨H,X,P⟩:=H;rw[z]at Wd;clear z;obtain⟨o,M⟩:∃o,Y3 s=o:=⟨_,rfl⟩;rw[M];have u:=M.symm.trans H.out;clear H M;have Y:Ext w (w.alloc (Z OH 49)):=(Ext.rfl' w).alloc _;have hg:(w.alloc (Z OH 49)).heap[w.heap.size]? =U (Z OH 49):=by rw[Z3,YZ rfl]
 have O:=λw j=>IX p w X j
 have Ll:=λw j=>IX q w P j
 clear X P hl;replace j:Hid (ErrF w):=j;replace B:Hid (MaxL w):=B;cases two<;>cases h1:numO p
 case' true.some x=>
  cases h2:numO q
  case' some y=>
   by_cases Cy:x=y
   case' neg=>have Ab:(x==y)=ND:=XQ.2 Cy
   case' pos=>subst Cy
 all_goals
  rw[h1]at O u
  try rw[h2]at Ll u
  clear h1
  try clear h2
  replace u:Hid (o=_):=u;go_enter fq Tryz.func129,Tryz.ntmps129
  go_wp2_with (first
   |(go_at_call 157;refine(Wd _ (B.out.ext Y)).r λ_ A2=> ?_;have V:=Y.trans A2;have L:=j.out.ext V)
   |(go_at_call 131;(with_reducible refine(O _ L).mono ?_);rintro e _ ⟨⟨v,rfl,hv⟩,Ag⟩;have C:=hv;unfold ErrV at C;simp only at C
     first|(obtain⟨te,ve,rfl⟩:=C)|(obtain rfl:=C)
     have A:=V.trans Ag;have K:=j.out.ext A;have c:=(A2.trans Ag).get hg;have q0:=Z0 c 0;have q1:=Z0 c 1;have z0:=Z8 c 0;have T:=Z8 c 1;simp only[YC,YA,YB]at q0 q1;replace c:Hid _:=c)
   |(go_at_call 131;(with_reducible refine(Ll _ K).mono ?_);rintro e _ ⟨⟨v,rfl,F⟩,E⟩;unfold ErrV at F;simp only at F
     first|(obtain⟨te,ve,rfl⟩:=F)|(obtain rfl:=F)
     replace A:=A.trans E;obtain⟨_,_,_⟩:=j.out.ext A;replace c:=E.get c.out;replace q0:=E.cellS q0;replace q1:=E.cellS q1;clear z0 T;have z0:=Z8 c 0;have T:=Z8 c 1;replace c:Hid _:=c))
  exact km rfl rfl rfl (by rw[u.out];first|exact⟨_,_,rfl⟩|(simp[twoO,ErrV, *];done)) (λq h=>(by rw[u.out]at h;first|cases h;done|cases h;rfl|simp[twoO, *]at h;done|simp[twoO, *]at h;exact h.symm)) c.out A
def fW{T:List (List UInt8)}(j:Nat)(x:List UInt8)(h:T[j]? =U x):(w.alloc (.cells (T.map str).toArray 9)).cell? ⟨w.heap.size,j,J⟩=U (str x):=by
 rw[Z0 (by rw[Z3,YZ rfl])];simp[h]
def WL{g:Nat}{l:List Int}(h:OwnI b0 w (NG (U g) n cp) l)(j:Nat)(x:Int)(c:l[j]? =U x):w.cell? ⟨g,j,J⟩=U (NE NF x):=by
 have:=h.cells (g:=g) rfl j (NE NF x) (by simp[c])
 rwa [ZU]at this
end
section
open Go.Nk Go.RowKit Go.Shelf Go.Proofs Go.Proofs.Tryq
attribute [local instance] k3
attribute [local go_sem] Oper.semAt_some
def ol(l:List UInt8)(w:NL):NW I 85 #[str l] w λe c=>e= NK (.func (.func 124) #[] #[NI (U w.heap.size)])/\c=w.alloc (Z #[str l] 9):=by
 go_enter fq Tryz.func85,Tryz.ntmps85;go_wp2;go_ret;exact⟨rfl,rfl⟩
def Q5{l:Nat}{R:Ending->NL->Prop}(h:NW I f args w R):CallsIn (Fence.wide.inRound l) n I f args w R:=(show CallsIn Fence.wide n I f args w R from SI.2 h)
structure Kpt(sb n0:Nat)(W W':NL):Prop where
 low:∀k,k<n0->k≠sb->W'.heap[k]? =W.heap[k]?
 others:KeepsOthers W W'
end
end Go.Proofs.Tryp
