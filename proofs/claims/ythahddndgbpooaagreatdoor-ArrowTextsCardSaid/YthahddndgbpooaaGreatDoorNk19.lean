import Derived.Test.YthahddndgbpooaaGreatDoorNk18
set_option linter.all false
set_option maxRecDepth 100000
set_option maxHeartbeats 4000000
open Go Go.Nk Go.RowKit
open Go.Obj renaming cells->I
open Go.Value renaming pointer->J,slice->Z,int->NE,agg->NJ
open Option renaming some->U,none->NB
open Bool renaming true->NC,false->ND
open Go.IntKind renaming i64->NF
variable {e h p x y:Int}{l:List Int}{a b c n:Nat}{o:Obj}{u v:Value}{w:World}
namespace Go.Proofs.Tryq
def Zm(f:Nat->Bool)(d:Int->Int->Bool):Nat->Nat×Bool
 |0=>(0,ND)
 |k+1=>if f k&&(!(Zm f d k).2||d (bl k).length (bl (Zm f d k).1).length||((bl k).length==(bl (Zm f d k).1).length&&Sq k (Zm f d k).1))then(k,NC)else Zm f d k
def Fs(f:Nat->Bool)(d:Int->Int->Bool):∀k,k<=256->(Zm f d k).1<256
 |0,_=>by simp[Zm]
 |k+1,h=>by
  rw[Zm];split
  .simp;omega
  .exact Fs f d k OA
def D3(r0 r1 r2 r3:Int)(j:Option Addr)(F B n:Nat)(p:Nat->Nat)(C:Nat->Nat->Int×Int)(hn:n<=8)(E:Bool)(g:FuncId)(A:Int->Int->Bool)(w:World)(hm:Most w)(hC:Cv w B n p C)(hd:Deb w)
 (Ha:∀V w,(callFunc g V).run prog w= .ok (.enter g V) w)(Xz:∀a b w,Calls prog g #[NE NF a,NE NF b] w (OJ (.bool (A a b)) w)):
 Calls prog 75 #[NJ #[r0,r1,r2,r3,Z j n F,Z (U B) n n],.bool E,.func (.func g) #[] #[]] w λe w'=>
  ∃v,e= .returned (.tuple #[v,.bool (Zm (λk=>Zz C k n==E) A (2 ^ n)).2])/\OwnI w.heap.size w' v ((bl (Zm (λk=>Zz C k n==E) A (2 ^ n)).1).map fun(i:Nat)=>(i:Int))/\Ext w w':=by
 have Pz:=KI hn;have C3:=λv w'=>N9 r0 r1 r2 r3 j n F v hn w'
 go_enter fk Tryz.func75,Tryz.ntmps75;have hc:(w.alloc (I #[r0,r1,r2,r3,Z j n F,Z (U B) n n] 136)).heap[w.heap.size]? =U (I #[r0,r1,r2,r3,Z j n F,Z (U B) n n] 136):=by rw[Z3,YZ rfl]
 have Af:=(Ext.rfl' w).alloc (I #[r0,r1,r2,r3,Z j n F,Z (U B) n n] 136)
 go_wp2_with (first|(go_at_call 70;refine(C3 _ _).r λw2 z=> ?_;have C6:=z.get hc))
 have Ad:=Af.trans z;have P9:((2:Int) ^ n)=((2 ^ n:Nat):Int):=by push_cast;rfl
 have Du:2 ^ n<=256:=OA
 rw[P9];clear P9 Pz z hc Af;obtain⟨m,Hm⟩:∃m,m=2 ^ n:=⟨_,rfl⟩;rw[<-Hm]at Du⊢;replace Hm:=Lib.hid Hm;go_loopw [8,9,16] (λvb vf vk wr=>∃k:Nat,k<=m/\vk= NE NF k/\vb= NE NF ((Zm (λk=>Zz C k n==E) A k).1:Nat)/\vf= .bool (Zm (λk=>Zz C k n==E) A k).2/\Ext w wr/\wr.heap[w.heap.size]? =U (I #[r0,r1,r2,r3,Z j n F,Z (U B) n n] 136)) (λ_ _ vk _=>m - (intOf vk).toNat)
 case atStart=>exact⟨0,XL _,rfl,rfl,rfl,Ad,C6⟩
 case round=>
  obtain⟨k,_,rfl,rfl,rfl,O,K⟩:=hrel;clear Ad C6;have c0:=Z0 K 0;have c1:=Z0 K 1;have c2:=Z0 K 2;have c3:=Z0 K 3;have c4:=Z0 K 4;have c5:=Z0 K 5;simp only[YC,YA,YB]at c0 c1 c2 c3 c4 c5;have C5:=Fs (λk=>Zz C k n==E) A k OA;by_cases Nf:k=m
  .subst Nf;have a0:=λw hd=>nU _ C5 w hd
   go_wp2_with (first|(go_at_call 117;refine(a0 _ (hd.ext O)).mono ?_;rintro e _ ⟨v,rfl,hv,Bn⟩))
   go_ret2;rw[<-Hm.out];exact⟨v,rfl,hv.le O.size,O.trans Bn⟩
  .have Ay:k<256:=OA
   have Y:=bf r0 r1 r2 r3 (Z j n F) B n (k:Int) p C hn OA wr (hm.ext O) (hC.ext O);have H:Hid (Zm (λk=>Zz C k n==E) A (k+1)=if(Zz C k n==E)&&(!(Zm (λk=>Zz C k n==E) A k).2||A (bl k).length (bl (Zm (λk=>Zz C k n==E) A k).1).length||((bl k).length==(bl (Zm (λk=>Zz C k n==E) A k).1).length&&Sq k (Zm (λk=>Zz C k n==E) A k).1))then(k,NC)else Zm (λk=>Zz C k n==E) A k):=rfl;generalize Zm (λk=>Zz C k n==E) A k=P at H C5⊢;obtain⟨b,f⟩:=P;have Xx:(0:Int)<=(k:Int):=OA
   have H9:(k:Int)<256:=OA
   have Jg:(0:Int)<=(b:Int):=OA
   have Be:(b:Int)<256:=by have:b<256:=C5;omega
   have Ou:=λw=>cA k Ay w
   have W:=λw=>cA b C5 w
   have T:=λw=>Xz (bl k).length (bl b).length w
   have X:=λw=>iv (k:Int) (b:Int) ⟨Xx,H9⟩ ⟨Jg,Be⟩ w
   simp only at H W T X;have a1:((k:Int)<(m:Int)):=OA
   generalize (bl k).length=x at H Ou T;generalize (bl b).length=y at H W T;generalize Sq (k:Int) (b:Int)=l at H X;generalize Zz C (k:Int) n=q at H Y;generalize A (x:Int) (y:Int)=t at H T;by_cases hq:q=E
   .subst hq;cases f
    .have d:Zm (λk=>Zz C k n==q) A (k+1)=(k,NC):=(by rw[H];simp);replace d:=Lib.hid d;clear H
     go_wp2_with (first|go_at_call 111;refine Y.r λw2 z=> ?_;have L:=O.trans z;have M:=z.get K;clear c0 c1 c2 c3 c4 c5|go_at_call 115;refine(Ou _).q ?_|go_at_call 115;refine(W _).q ?_|go_at_call 116;refine(X _).q ?_|refine(T _).q ?_)
     go_roundw
     case rel=>exact⟨k+1,OA,by push_cast;rfl,by rw[d.out],by rw[d.out],L,M⟩
     case measure=>simp[intOf];omega
    .cases t
     .by_cases Cy:x=y
      .subst Cy;have Iw:(((x:Int)==(x:Int)))=NC:=OD;cases l
       .have d:Zm (λk=>Zz C k n==q) A (k+1)=(b,NC):=(by rw[H];simp);replace d:=Lib.hid d;clear H
        go_wp2_with (first|go_at_call 111;refine Y.r λw2 z=> ?_;have L:=O.trans z;have M:=z.get K;clear c0 c1 c2 c3 c4 c5|go_at_call 115;refine(Ou _).q ?_|go_at_call 115;refine(W _).q ?_|go_at_call 116;refine(X _).q ?_|refine(T _).q ?_)
        go_roundw
        case rel=>exact⟨k+1,OA,by push_cast;rfl,by rw[d.out],by rw[d.out],L,M⟩
        case measure=>simp[intOf];omega
       .have d:Zm (λk=>Zz C k n==q) A (k+1)=(k,NC):=(by rw[H];simp);replace d:=Lib.hid d;clear H
        go_wp2_with (first|go_at_call 111;refine Y.r λw2 z=> ?_;have L:=O.trans z;have M:=z.get K;clear c0 c1 c2 c3 c4 c5|go_at_call 115;refine(Ou _).q ?_|go_at_call 115;refine(W _).q ?_|go_at_call 116;refine(X _).q ?_|refine(T _).q ?_)
        go_roundw
        case rel=>exact⟨k+1,OA,by push_cast;rfl,by rw[d.out],by rw[d.out],L,M⟩
        case measure=>simp[intOf];omega
      .have Iw:(((x:Int)==(y:Int)))=ND:=(by simp;omega);have d:Zm (λk=>Zz C k n==q) A (k+1)=(b,NC):=(by rw[H];simp[Cy]);replace d:=Lib.hid d;clear H
       go_wp2_with (first|go_at_call 111;refine Y.r λw2 z=> ?_;have L:=O.trans z;have M:=z.get K;clear c0 c1 c2 c3 c4 c5|go_at_call 115;refine(Ou _).q ?_|go_at_call 115;refine(W _).q ?_|go_at_call 116;refine(X _).q ?_|refine(T _).q ?_)
       go_roundw
       case rel=>exact⟨k+1,OA,by push_cast;rfl,by rw[d.out],by rw[d.out],L,M⟩
       case measure=>simp[intOf];omega
     .have d:Zm (λk=>Zz C k n==q) A (k+1)=(k,NC):=(by rw[H];simp);replace d:=Lib.hid d;clear H
      go_wp2_with (first|go_at_call 111;refine Y.r λw2 z=> ?_;have L:=O.trans z;have M:=z.get K;clear c0 c1 c2 c3 c4 c5|go_at_call 115;refine(Ou _).q ?_|go_at_call 115;refine(W _).q ?_|go_at_call 116;refine(X _).q ?_|refine(T _).q ?_)
      go_roundw
      case rel=>exact⟨k+1,OA,by push_cast;rfl,by rw[d.out],by rw[d.out],L,M⟩
      case measure=>simp[intOf];omega
   .cases q<;>cases E<;>first
     |exact absurd rfl hq
     |(
       have d:=H.trans (XB OD);replace d:=Lib.hid d;clear H
       go_wp2_with (first|go_at_call 111;refine Y.r λw2 z=> ?_;have L:=O.trans z;have M:=z.get K;clear c0 c1 c2 c3 c4 c5|go_at_call 115;refine(Ou _).q ?_|go_at_call 115;refine(W _).q ?_|go_at_call 116;refine(X _).q ?_|refine(T _).q ?_)
       go_roundw
       case rel=>exact⟨k+1,OA,by push_cast;rfl,by rw[d.out],by rw[d.out],L,M⟩
       case measure=>simp[intOf];omega)
def pS(a b:Int)(w:World):Calls prog 76 #[a,b] w (OJ (.bool (decide (a<b))) w):=by
 go_enter fk Tryz.func76,Tryz.ntmps76;go_wp2;go_ret;exact⟨rfl,rfl⟩
def nY(a b:Int)(w:World):Calls prog 77 #[a,b] w (OJ (.bool (decide (b<a))) w):=by
 go_enter fk Tryz.func77,Tryz.ntmps77;go_wp2;go_ret;exact⟨rfl,rfl⟩
def IF(r0 r1 r2 r3:Int)(S:List Rs):List Int:=(bl (Zm (λk=>Zz (cvS r0 r1 r2 r3 (S.map Ze)) k S.length==ND) (λa b=>decide (a<b)) (2 ^ S.length)).1).map fun(i:Nat)=>(i:Int)
def IP(r0 r1 r2 r3:Int)(S:List Rs):List Int:=(bl (Zm (λk=>Zz (cvS r0 r1 r2 r3 (S.map Ze)) k S.length==NC) (λa b=>decide (b<a)) (2 ^ S.length)).1).map fun(i:Nat)=>(i:Int)
def fu(r0 r1 r2 r3:Int)(d:Option Addr)(n f:Nat)(S:List Rs)(w:World)(E:S.length=n)(t:RawS w d S)(H:Most w)(A:Deb w):
 Calls prog 31 #[NJ #[r0,r1,r2,r3,Z d n f]] w λe g=>∃v,e= .returned (.tuple #[v,NE NF (ZC r0 r1 r2 r3 S)])/\OwnI w.heap.size g v (if ZC r0 r1 r2 r3 S=0 then IF r0 r1 r2 r3 S else[])/\Ext w g:=by
 have g:=P8 r0 r1 r2 r3 d n f S;simp only[Zh]at g;have L:(w.alloc (I #[r0,r1,r2,r3,Z d n f] 31)).heap[w.heap.size]? =U (I #[r0,r1,r2,r3,Z d n f] 31):=by rw[Z3,YZ rfl]
 have F:Ext w _:=(Ext.rfl' w).alloc (I #[r0,r1,r2,r3,Z d n f] 31);have z:=g _ E (t.ext F);clear g;by_cases g:ZC r0 r1 r2 r3 S=0
 .obtain⟨_,h8,C9⟩:=PH g;rw[YZ g];rw[g]at z⊢;clear g;have j:(S.map Ze).length=n:=by rw[TH,E]
  have i:n<=8:=OA
  have K:=λw t=>DL r0 r1 r2 r3 d f w (S.map Ze) n j i t
  have M:=λB p w H C A=>D3 r0 r1 r2 r3 d f B n p (cvS r0 r1 r2 r3 (S.map Ze)) i ND 76 (λa b=>decide (a<b)) w H C A (λ_ w=>by simp[go_sem]) pS
  simp only[Zh]at K;go_enter fk Tryz.func31,Tryz.ntmps31
  go_wp2_with (first|(go_at_call 43;refine z.r λO m=> ?_;have j:=F.trans m;have i:=m.get L;have q0:=Z0 i 0;have q1:=Z0 i 1;have q2:=Z0 i 2;have q3:=Z0 i 3;have q4:=Z0 i 4;simp only[YC,YA,YB]at q0 q1 q2 q3 q4)|(go_at_call 74;refine(K _ (DU (t.ext j) C9)).mono ?_;rintro e _ ⟨B,p,rfl,K,C,_,_⟩;have i:=j.trans K)|(go_at_call 75;refine(M B p _ (H.ext i) C (A.ext i)).mono ?_;rintro e _ ⟨v,rfl,C,B⟩))
  go_ret2;exact⟨v,rfl,by rw[IF,E];exact C.le i.size,i.trans B⟩
 .rw[XB g];have i:(ZC r0 r1 r2 r3 S !=0)=NC:=by simpa using g
  clear g;generalize ZC r0 r1 r2 r3 S=x at i z⊢;go_enter fk Tryz.func31,Tryz.ntmps31
  go_wp2_with (first|(go_at_call 43;refine z.r λO m=> ?_;have j:=F.trans m))
  go_ret2;exact⟨_,rfl,VJ _ _ _ _,j⟩
def mN(r0 r1 r2 r3:Int)(d:Option Addr)(n f:Nat)(S:List Rs)(w:World)(E:S.length=n)(t:RawS w d S)(H:Most w)(A:Deb w):
 Calls prog 32 #[NJ #[r0,r1,r2,r3,Z d n f]] w λe g=>∃v,e= .returned (.tuple #[v,NE NF (ZC r0 r1 r2 r3 S)])/\OwnI w.heap.size g v (if ZC r0 r1 r2 r3 S=0 then IP r0 r1 r2 r3 S else[])/\Ext w g:=by
 have g:=P8 r0 r1 r2 r3 d n f S;simp only[Zh]at g;have L:(w.alloc (I #[r0,r1,r2,r3,Z d n f] 31)).heap[w.heap.size]? =U (I #[r0,r1,r2,r3,Z d n f] 31):=by rw[Z3,YZ rfl]
 have F:Ext w _:=(Ext.rfl' w).alloc (I #[r0,r1,r2,r3,Z d n f] 31);have z:=g _ E (t.ext F);clear g;by_cases g:ZC r0 r1 r2 r3 S=0
 .obtain⟨_,h8,C9⟩:=PH g;rw[YZ g];rw[g]at z⊢;clear g;have j:(S.map Ze).length=n:=by rw[TH,E]
  have i:n<=8:=OA
  have K:=λw t=>DL r0 r1 r2 r3 d f w (S.map Ze) n j i t
  have M:=λB p w H C A=>D3 r0 r1 r2 r3 d f B n p (cvS r0 r1 r2 r3 (S.map Ze)) i NC 77 (λa b=>decide (b<a)) w H C A (λ_ w=>by simp[go_sem]) nY
  simp only[Zh]at K;go_enter fk Tryz.func32,Tryz.ntmps32
  go_wp2_with (first|(go_at_call 43;refine z.r λO m=> ?_;have j:=F.trans m;have i:=m.get L;have q0:=Z0 i 0;have q1:=Z0 i 1;have q2:=Z0 i 2;have q3:=Z0 i 3;have q4:=Z0 i 4;simp only[YC,YA,YB]at q0 q1 q2 q3 q4)|(go_at_call 74;refine(K _ (DU (t.ext j) C9)).mono ?_;rintro e _ ⟨B,p,rfl,K,C,_,_⟩;have i:=j.trans K)|(go_at_call 75;refine(M B p _ (H.ext i) C (A.ext i)).mono ?_;rintro e _ ⟨v,rfl,C,B⟩))
  go_ret2;exact⟨v,rfl,by rw[IP,E];exact C.le i.size,i.trans B⟩
 .rw[XB g];have i:(ZC r0 r1 r2 r3 S !=0)=NC:=by simpa using g
  clear g;generalize ZC r0 r1 r2 r3 S=x at i z⊢;go_enter fk Tryz.func32,Tryz.ntmps32
  go_wp2_with (first|(go_at_call 43;refine z.r λO m=> ?_;have j:=F.trans m))
  go_ret2;exact⟨_,rfl,VJ _ _ _ _,j⟩
def PE(r0 r1 r2 r3:Int)(S:List Rs)(k:Int):Int:=firstV [ZC r0 r1 r2 r3 S,OQ S.length k]
def PM(r2 r3:Int)(s:Rs):Int×Int:=(lo s.m s.wi s.li r2 r3,hi s.M s.wi s.li r2 r3)
def KZ(r0 r1 r2 r3:Int)(S:List Rs)(k:Int):Int×Int:=if PE r0 r1 r2 r3 S k=0 then(match S[k.toNat]? with|some s=>PM r2 r3 s|none=>(0,0))else(0,0)
def kB(r0 r1 r2 r3:Int)(d:Option Addr)(n f:Nat)(S:List Rs)(k:Int)(w:World)(A1:S.length=n)(Vs:n<=20)(hS:RawS w d S):
 Calls prog 25 #[NJ #[r0,r1,r2,r3,Z d n f],k] w (OI (.tuple #[NJ #[.int NF (KZ r0 r1 r2 r3 S k).1,.int NF (KZ r0 r1 r2 r3 S k).2],NE NF (PE r0 r1 r2 r3 S k)]) w):=by
 have L:Ext w ((((w.alloc (I #[r0,r1,r2,r3,Z d n f] 31)).alloc (I #[k] 3)).alloc (I OH 49)).alloc (I #[.func (.func 62) #[] #[J (U w.heap.size)],.func (.func 63) #[] #[J (U ⟨w.heap.size+1,0,NB⟩),J (U w.heap.size)]] 129)):=((((Ext.rfl' w).alloc _).alloc _).alloc _).alloc _;have A:((((w.alloc (I #[r0,r1,r2,r3,Z d n f] 31)).alloc (I #[k] 3)).alloc (I OH 49)).alloc (I #[.func (.func 62) #[] #[J (U w.heap.size)],.func (.func 63) #[] #[J (U ⟨w.heap.size+1,0,NB⟩),J (U w.heap.size)]] 129)).heap[w.heap.size]? =U (I #[r0,r1,r2,r3,Z d n f] 31):=by
  simp only[Z3,Z2];rw[XB OA,XB OA,XB OA,YZ trivial]
 have F:((((w.alloc (I #[r0,r1,r2,r3,Z d n f] 31)).alloc (I #[k] 3)).alloc (I OH 49)).alloc (I #[.func (.func 62) #[] #[J (U w.heap.size)],.func (.func 63) #[] #[J (U ⟨w.heap.size+1,0,NB⟩),J (U w.heap.size)]] 129)).heap[w.heap.size+1]? =U (I #[k] 3):=by
  simp only[Z3,Z2];rw[XB OA,XB OA,YZ trivial]
 have V:((((w.alloc (I #[r0,r1,r2,r3,Z d n f] 31)).alloc (I #[k] 3)).alloc (I OH 49)).alloc (I #[.func (.func 62) #[] #[J (U w.heap.size)],.func (.func 63) #[] #[J (U ⟨w.heap.size+1,0,NB⟩),J (U w.heap.size)]] 129)).heap[w.heap.size+1+1]? =U (I OH 49):=by
  simp only[Z3,Z2];rw[XB OA,YZ trivial]
 have W:((((w.alloc (I #[r0,r1,r2,r3,Z d n f] 31)).alloc (I #[k] 3)).alloc (I OH 49)).alloc (I #[.func (.func 62) #[] #[J (U w.heap.size)],.func (.func 63) #[] #[J (U ⟨w.heap.size+1,0,NB⟩),J (U w.heap.size)]] 129)).heap[w.heap.size+1+1+1]? =U (I #[.func (.func 62) #[] #[J (U w.heap.size)],.func (.func 63) #[] #[J (U ⟨w.heap.size+1,0,NB⟩),J (U w.heap.size)]] 129):=by
  simp only[Z3,Z2];rw[YZ trivial]
 have Io:=λK (L:Ext w K)(A:K.heap[w.heap.size]? =U (I #[r0,r1,r2,r3,Z d n f] 31))(F:K.heap[w.heap.size+1]? =U (I #[k] 3))(W:K.heap[w.heap.size+1+1+1]? =U (I #[.func (.func 62) #[] #[J (U w.heap.size)],.func (.func 63) #[] #[J (U ⟨w.heap.size+1,0,NB⟩),J (U w.heap.size)]] 129))=>
  Hu (w.heap.size+1+1+1) 2 2 (λi=>if i=0 then 62 else 63) (λi=> #[]) (λi=>if i=0 then #[J (U w.heap.size)]else #[J (U ⟨w.heap.size+1,0,NB⟩),J (U w.heap.size)]) [ZC r0 r1 r2 r3 S,OQ n k] rfl OA K (by
   intro i hi;rw[Z0 W];obtain rfl|rfl:i=0\/i=1:=OA
   .rfl
   .rfl) (by
   intro i hi _ w';obtain rfl|rfl:i=0\/i=1:=OA
   .simp[go_sem]
   .simp[go_sem]) (by
   intro i x E w' t
   match i,E with
   |0,E=>
    obtain rfl:=YT E;exact kJ r0 r1 r2 r3 d n f S w' A1 (hS.ext (L.trans t)) _ (t.get A)
   |1,E=>
    obtain rfl:=YT E;exact iR r0 r1 r2 r3 d n f Vs w' _ (t.get A) _ k (t.cellS (by rw[Z0 F];rfl)))
 have Em:firstV [ZC r0 r1 r2 r3 S,OQ n k]=PE r0 r1 r2 r3 S k:=by rw[PE,A1]
 rw[Em]at Io;clear Em;have Y:w.heap.size<=w.heap.size+1+1:=OA
 have X:=Io _ L A F W;clear Io W;by_cases B:PE r0 r1 r2 r3 S k=0
 .have Ao:0<=k/\k<n:=by
   have h2:=firstV_all B (OQ S.length k) OD;unfold OQ at h2;rw[A1]at h2;split at h2
   .assumption
   .omega
  obtain⟨g,Cc⟩:∃g,S[k.toNat]? =U g:=⟨_,YH OA⟩;rw[KZ,YZ B,Cc];simp only;rw[B]at X⊢;clear B;obtain⟨b,a1,rfl,C5,j⟩:=hS _ _ Cc;have P:=λw C5 j=>IB r0 r1 r2 r3 g.a g.m g.M g.wi g.li k b a1 n f w Ao.1 OA C5 j
  simp only[Zg,MM]at P;go_enter fk Tryz.func25,Tryz.ntmps25
  go_wp2_with (first|go_at_call 61;refine X.r λw5 C=> ?_;have z:=L.trans C;have H:=C.get A;have a0:=C.get F;have T:=C.get V;have q0:=Z0 H 0;have q1:=Z0 H 1;have q2:=Z0 H 2;have q3:=Z0 H 3;have q4:=Z0 H 4;have q5:=Z0 a0 0;simp only[YC,YA,YB]at q0 q1 q2 q3 q4 q5;clear A F V|go_at_call 66;refine(P _ (z.lt C5) ⟨z.cellS j.c0,z.cellS j.c1,z.cellS j.c2,z.cellS j.c3,z.cellS j.c4⟩).r λ_ hG=> ?_;have Cw:=z.trans hG.ext;have Vv:=hG.ext.get T;have p:=Zc Vv;have p0:=p.1;have p1:=p.2.1;have p2:=p.2.2.1;have p3:=p.2.2.2;clear p)
  have O:=Zc (set_pair Vv (NE NF (lo g.m g.wi g.li r2 r3)) (NE NF (hi g.M g.wi g.li r2 r3)));have Vw:=O.1;have Vx:=O.2.1;refine VE (v:= .tuple #[NJ #[NE NF (lo g.m g.wi g.li r2 r3),NE NF (hi g.M g.wi g.li r2 r3)],NE NF 0]) ((MW rfl _ _ _).trans ?_) rfl ⟨rfl,(Cw.setCell _ _ Y).setCell _ _ Y⟩;simp[go_sem,Vw,Vx]
 .have E:(PE r0 r1 r2 r3 S k !=0)=NC:=by simpa using B
  rw[KZ,XB B];clear B;generalize PE r0 r1 r2 r3 S k=x at E X⊢;go_enter fk Tryz.func25,Tryz.ntmps25
  go_wp2_with (first|go_at_call 61;refine X.r λw5 C=> ?_;have z:=L.trans C;have T:=C.get V;have p:=Zc T;have p0:=p.1;have p1:=p.2.1;have p2:=p.2.2.1;have p3:=p.2.2.2;clear p A F V)
  have O:=Zc (set_pair T (NE NF 0) (NE NF 0));have Vw:=O.1;have Vx:=O.2.1;refine VE (v:= .tuple #[.agg OH,x]) ((MW rfl _ _ _).trans ?_) rfl ⟨rfl,(z.setCell _ _ Y).setCell _ _ Y⟩;simp[go_sem,Vw,Vx]
structure CardOk(r0 r1 r2 r3:Int)(S:List Rs):Prop where
 h0:0<=r0
 h1:r0<=r1/\r1<=999
 h2:0<=r2/\r2<=999
 h3:0<=r3/\r3<=999
 len:S.length<=8
 ok:∀s∈S,(0<=s.a/\s.a<=90)/\(0<=s.m/\s.m<=s.M/\s.M<=99999)/\(0<=s.wi/\s.wi<=9)/\(0<=s.li/\s.li<=9)
def Ex{r0 r1 r2 r3:Int}{S:List Rs}(h:ZC r0 r1 r2 r3 S=0):CardOk r0 r1 r2 r3 S:=by
 obtain⟨f,g,i⟩:=PH h;have d:(okN r0 999&&okN r1 999&&okN r2 999&&okN r3 999&&decide (r0<=r1))=NC:=by
  unfold Sw at f;split at f
  .assumption
  .cases f
 simp only[okN,YG,XE]at d;refine⟨d.1.1.1.1.1,⟨d.2,d.1.1.1.2.2⟩,d.1.1.2,d.1.2,g,λs j=> ?_⟩;have:=i s j;simp only[okS,okN,YG,XE]at this;exact⟨this.1.1.1,this.1.1.2,this.1.2,this.2⟩
def PD(r0 r1 l c d:Int):Int:=if c<=d then l+r0*(d - c)else l - r1*(c - d)
def Pc(r0 r1 h c d:Int):Int:=if c<=d then h+r1*(d - c)else h - r0*(c - d)
def Xt(r2 r3:Int)(s:Rs):Int:=s.wi*r2+s.li*r3
def spV(r0 r1 r2 r3:Int)(s:Rs)(d:Int):Int×Int:=(PD r0 r1 (s.m - Xt r2 r3 s) s.a d,Pc r0 r1 (s.M+Xt r2 r3 s) s.a d)
def G8(r0 r1 r2 r3:Int)(s:Rs)(d:Int):Int×Int:=
 if s.a<=d then(wrap64 ((PM r2 r3 s).1+wrap64 (r0*wrap64 (d - s.a))),wrap64 ((PM r2 r3 s).2+wrap64 (r1*wrap64 (d - s.a))))
 else(wrap64 ((PM r2 r3 s).1 - wrap64 (r1*wrap64 (s.a - d))),wrap64 ((PM r2 r3 s).2 - wrap64 (r0*wrap64 (s.a - d))))
def WE(n:Int)(h: -9223372036854775808<=n/\n<=9223372036854775807):wrap64 n=n:=by unfold wrap64;omega
def Ua{a b:Int}(d:0<=x/\x<=a)(f:0<=y/\y<=b):0<=x*y/\x*y<=a*b:=
 ⟨Int.mul_nonneg d.1 f.1,Int.mul_le_mul d.2 f.2 f.1 (Int.le_trans d.1 d.2)⟩
section
variable {r0 r1 r2 r3:Int}{S:List Rs}(hc:CardOk r0 r1 r2 r3 S)
include hc
def JX{s:Rs}(g:s∈S):0<=Xt r2 r3 s/\Xt r2 r3 s<=17982/\wrap64 (wrap64 (s.wi*r2)+wrap64 (s.li*r3))=Xt r2 r3 s:=by
 obtain⟨_,_,f,d⟩:=hc.ok s g;have i:=Ua f hc.h2;have f:=Ua d hc.h3;unfold Xt;rw[WE (s.wi*r2) OA,WE (s.li*r3) OA,WE _ OA];omega
def dC{s:Rs}(d:s∈S):PM r2 r3 s=(s.m - Xt r2 r3 s,s.M+Xt r2 r3 s):=by
 obtain⟨_,_,f⟩:=JX hc d;have g:=(hc.ok s d).2.1;simp only[PM,lo,hi,f];rw[WE _ OA,WE _ OA]
def AD{s:Rs}(g:s∈S){d:Int}(m:0<=d/\d<=90):G8 r0 r1 r2 r3 s d=spV r0 r1 r2 r3 s d:=by
 obtain⟨_,_,_⟩:=JX hc g;obtain⟨_,_,_⟩:=hc.ok s g;have f:=hc.h0;have e1:=hc.h1;simp only[G8,spV,dC hc g,PD,Pc];by_cases f:s.a<=d
 .rw[YZ f,YZ f,YZ f];have i:=Ua (x:=r0) (y:=d - s.a) (a:=999) (b:=90) OA OA;have j:=Ua (x:=r1) (y:=d - s.a) (a:=999) (b:=90) OA OA;rw[WE (d - s.a) OA,WE (r0*(d - s.a)) OA,WE (r1*(d - s.a)) OA,WE _ OA,WE _ OA]
 .rw[XB f,XB f,XB f];have i:=Ua (x:=r0) (y:=s.a - d) (a:=999) (b:=90) OA OA;have j:=Ua (x:=r1) (y:=s.a - d) (a:=999) (b:=90) OA OA;rw[WE (s.a - d) OA,WE (r0*(s.a - d)) OA,WE (r1*(s.a - d)) OA,WE _ OA,WE _ OA]
omit hc in
def GC{l r:Int}(f: -1000000<=l/\l<=1000000)(d:0<=r/\r<=999):∀n:Nat,n<=90->upI l r n=l+r*n
 |0,_=>by simp[upI]
 |n+1,hn=>by
  have g:=Ua (x:=r) (y:=(n:Int)) (a:=999) (b:=90) d OA;rw[upI,GC f d n OA,WE _ OA];push_cast;rw[Int.mul_add];omega
omit hc in
def Do{l r:Int}(f: -1000000<=l/\l<=1000000)(d:0<=r/\r<=999):∀n:Nat,n<=90->dnI l r n=l - r*n
 |0,_=>by simp[dnI]
 |n+1,hn=>by
  have g:=Ua (x:=r) (y:=(n:Int)) (a:=999) (b:=90) d OA;rw[dnI,Do f d n OA,WE _ OA];push_cast;rw[Int.mul_add];omega
def qr{i:Nat}{s:Rs}(j:S[i]? =U s){d:Nat}(t:d<=90):cvS r0 r1 r2 r3 (S.map Ze) i d=spV r0 r1 r2 r3 s d:=by
 have g:=YQ j;obtain⟨_,_,_⟩:=JX hc g;obtain⟨m,_,_⟩:=hc.ok s g;have f:=hc.h0;have e1:=hc.h1;have f:=dC hc g;simp only[PM,SV]at f;have g:((s.a.toNat:Nat):Int)=s.a:=Int.toNat_of_nonneg m.1;rw[cvS,List.getElem?_map,j];simp only[XN,shL,shH,Ze,f.1,f.2,atC,spV,PD,Pc];by_cases f:s.a.toNat<=d
 .rw[YZ f,YZ OA,YZ OA,GC OA OA _ OA,GC OA OA _ OA];rw[show((d - s.a.toNat:Nat):Int)=(d:Int) - s.a by omega]
 .rw[XB f,XB OA,XB OA,Do OA OA _ OA,Do OA OA _ OA];rw[show((s.a.toNat - d:Nat):Int)=s.a - (d:Int) by omega]
omit hc in
def BG{r0 r1 c d:Int}(g:0<=r0)(f:r0<=r1)(i:d<=e):r0*(e - d)<=Pc r0 r1 h c e - Pc r0 r1 h c d/\Pc r0 r1 h c e - Pc r0 r1 h c d<=r1*(e - d):=by
 unfold Pc;have k1:=TK f (show 0<=e - d by omega);by_cases a:c<=d
 .rw[YZ OA,YZ a];rw[Int.mul_sub,Int.mul_sub]at k1;simp only[Int.mul_sub];omega
 .by_cases b:c<=e
  .have k2:=TK f (show 0<=e - c by omega);have k3:=TK f (show 0<=c - d by omega);rw[YZ b,XB a];simp only[Int.mul_sub]at k1 k2 k3⊢;omega
  .rw[XB b,XB a];simp only[Int.mul_sub]at k1⊢;omega
def BK(s t:Rs)(d:Int):(spV r0 r1 r2 r3 s d).1 - (spV r0 r1 r2 r3 t d).2<=(spV r0 r1 r2 r3 s s.a).1 - (spV r0 r1 r2 r3 t s.a).2:=by
 simp only[spV];have g:=hc.h0;have e1:=hc.h1.1;rcases Int.le_total s.a d with h|h
 .have a1:=(BG (h:=t.M+Xt r2 r3 t) (c:=t.a) g e1 h).1;have j:PD r0 r1 (s.m - Xt r2 r3 s) s.a d=s.m - Xt r2 r3 s+r0*(d - s.a):=YZ h;have f:PD r0 r1 (s.m - Xt r2 r3 s) s.a s.a=s.m - Xt r2 r3 s+r0*(s.a - s.a):=YZ (RN _);rw[Int.sub_self,Int.mul_zero]at f;omega
 .have a1:=(BG (h:=t.M+Xt r2 r3 t) (c:=t.a) g e1 h).2;have f:PD r0 r1 (s.m - Xt r2 r3 s) s.a s.a=s.m - Xt r2 r3 s+r0*(s.a - s.a):=YZ (RN _);rw[Int.sub_self,Int.mul_zero]at f;by_cases i:s.a<=d
  .have:s.a=d:=OA
   subst this;omega
  .have j:PD r0 r1 (s.m - Xt r2 r3 s) s.a d=s.m - Xt r2 r3 s - r1*(s.a - d):=XB i;omega
def Dd{s:Rs}(g:s∈S){d:Int}(m:0<=d/\d<=90): -1000000<=(spV r0 r1 r2 r3 s d).1/\(spV r0 r1 r2 r3 s d).1<=(spV r0 r1 r2 r3 s d).2/\(spV r0 r1 r2 r3 s d).2<=1000000:=by
 obtain⟨_,_,_⟩:=JX hc g;obtain⟨_,_,_⟩:=hc.ok s g;have f:=hc.h0;have e1:=hc.h1;simp only[spV,PD,Pc];by_cases f:s.a<=d
 .have a1:=Ua (x:=r0) (y:=d - s.a) (a:=999) (b:=90) OA OA;have i:=Ua (x:=r1) (y:=d - s.a) (a:=999) (b:=90) OA OA;have j:=TK e1.1 (show 0<=d - s.a by omega);rw[YZ f,YZ f];omega
 .have a1:=Ua (x:=r0) (y:=s.a - d) (a:=999) (b:=90) OA OA;have i:=Ua (x:=r1) (y:=s.a - d) (a:=999) (b:=90) OA OA;have j:=TK e1.1 (show 0<=s.a - d by omega);rw[XB f,XB f];omega
end
def has_all:(List.range 256).all (λk=>(List.range 8).all λi=>has (k:Int) i==k.testBit i)=NC:=OB
def KH{k i:Nat}(d:k<256)(hi:i<8):has (k:Int) i=k.testBit i:=by
 have:=YL.1 (YL.1 has_all k (YU.2 d)) i (YU.2 hi);simpa using this
def ax(C:Nat->Nat->Int×Int)(set:Int)(d:Nat)(x:Int):∀n,(atF C set d n).1<=x↔-1099511627776<=x/\∀i,i<n->has set i=NC->(C i d).1<=x
 |0=>by simp[atF]
 |n+1=>by
  have g:=ax C set d x n;rw[atF];by_cases h:has set n=NC
  .rw[YZ h];simp only[Int.max_le,g];constructor
   .rintro⟨⟨h1,h2⟩,h3⟩;refine⟨h1,λi hi f=> ?_⟩;by_cases e:i=n
    .subst e;exact h3
    .exact h2 i OA f
   .rintro⟨h1,h2⟩;exact⟨⟨h1,λi hi=>h2 i OA⟩,h2 n OA h⟩
  .rw[XB h,g];constructor
   .rintro⟨h1,h2⟩;refine⟨h1,λi hi f=> ?_⟩;by_cases e:i=n
    .subst e;exact absurd f h
    .exact h2 i OA f
   .rintro⟨h1,h2⟩;exact⟨h1,λi hi=>h2 i OA⟩
def dE(C:Nat->Nat->Int×Int)(set:Int)(d:Nat)(x:Int):∀n,x<=(atF C set d n).2↔x<=1099511627776/\∀i,i<n->has set i=NC->x<=(C i d).2
 |0=>by simp[atF]
 |n+1=>by
  have g:=dE C set d x n;rw[atF];by_cases h:has set n=NC
  .rw[YZ h];simp only[Int.le_min,g];constructor
   .rintro⟨⟨h1,h2⟩,h3⟩;refine⟨h1,λi hi f=> ?_⟩;by_cases e:i=n
    .subst e;exact h3
    .exact h2 i OA f
   .rintro⟨h1,h2⟩;exact⟨⟨h1,λi hi=>h2 i OA⟩,h2 n OA h⟩
  .rw[XB h,g];constructor
   .rintro⟨h1,h2⟩;refine⟨h1,λi hi f=> ?_⟩;by_cases e:i=n
    .subst e;exact absurd f h
    .exact h2 i OA f
   .rintro⟨h1,h2⟩;exact⟨h1,λi hi=>h2 i OA⟩
def Jd(x y:Int×Int):Int×Int:=(max x.1 y.1,min x.2 y.2)
def PO(r0 r1 r2 r3:Int)(S:List Rs)(d:Int)(i:Int):Int×Int:=match S[i.toNat]? with
 |some s=>G8 r0 r1 r2 r3 s d
 |none=>(0,0)
def Qa(r0 r1 r2 r3:Int)(S:List Rs)(d:Int):List Int->Int×Int
 |[]=>(0,0)
 |i::t=>t.foldl (λx j=>Jd x (PO r0 r1 r2 r3 S d j)) (PO r0 r1 r2 r3 S d i)
def bS(f:Int->Int×Int)(x:Int):∀(t:List Int)(y:Int×Int),(t.foldl (λx j=>Jd x (f j)) y).1<=x↔y.1<=x/\∀j∈t,(f j).1<=x
 |[],y=>by simp
 |j::t,y=>by
  rw[VU,bS f x t];simp only[Jd,Int.max_le,YD,and_assoc]
def bP(f:Int->Int×Int)(x:Int):∀(t:List Int)(y:Int×Int),x<=(t.foldl (λx j=>Jd x (f j)) y).2↔x<=y.2/\∀j∈t,x<=(f j).2
 |[],y=>by simp
 |j::t,y=>by
  rw[VU,bP f x t];simp only[Jd,Int.le_min,YD,and_assoc]
def aT{r0 r1 r2 r3:Int}{S:List Rs}{d:Int}(f:l≠[]):(Qa r0 r1 r2 r3 S d l).1<=x↔∀j∈l,(PO r0 r1 r2 r3 S d j).1<=x:=by
 cases l with|nil=>exact absurd rfl f|cons i t=>rw[Qa,bS,YD]
def GA{r0 r1 r2 r3:Int}{S:List Rs}{d:Int}(f:l≠[]):x<=(Qa r0 r1 r2 r3 S d l).2↔∀j∈l,x<=(PO r0 r1 r2 r3 S d j).2:=by
 cases l with|nil=>exact absurd rfl f|cons i t=>rw[Qa,bP,YD]
def oH{a b:Int}(h:∀x,a<=x↔b<=x):a=b:=Int.le_antisymm ((h b).2 (RN _)) ((h a).1 (RN _))
def eo{a b:Int}(h:∀x,x<=a↔x<=b):a=b:=Int.le_antisymm ((h a).1 (RN _)) ((h b).2 (RN _))
def ZN(k:Nat):List Int:=(bl k).map fun(i:Nat)=>(i:Int)
def Rh{k:Nat}:p∈ZN k↔∃i:Nat,i<8/\k.testBit i=NC/\p=i:=by
 simp only[ZN,bl,VW,UO,YU];constructor
 .rintro⟨i,⟨h1,h2⟩,rfl⟩;exact⟨i,h1,h2,rfl⟩
 .rintro⟨i,h1,h2,rfl⟩;exact⟨i,⟨h1,h2⟩,rfl⟩
section
variable {r0 r1 r2 r3:Int}{S:List Rs}(hc:CardOk r0 r1 r2 r3 S)
include hc
omit hc in
def MP{k i:Nat}(d:k<2 ^ n)(h:k.testBit i=NC):i<n:=by
 rcases VC i n with h1|h1
 .exact h1
 .have:=Nat.testBit_lt_two_pow (YS d (SF OA h1));rw[this]at h;cases h
def ac{k:Nat}(t:k<2 ^ S.length)(B:ZN k≠[]){d:Nat}(H:d<=90):atF (cvS r0 r1 r2 r3 (S.map Ze)) k d S.length=Qa r0 r1 r2 r3 S d (ZN k):=by
 have A:k<256:=YS t (by have:=SF (n:=2) OA hc.len;exact this);have f:∀i,i<S.length->k.testBit i=NC->∃s,S[i]? =U s/\s∈S/\cvS r0 r1 r2 r3 (S.map Ze) i d=spV r0 r1 r2 r3 s d/\PO r0 r1 r2 r3 S d i=spV r0 r1 r2 r3 s d:=by
  intro i hi _;obtain⟨s,g⟩:∃s,S[i]? =U s:=⟨_,YH hi⟩;refine⟨s,g,YQ g,qr hc g H,?_⟩;simp only[PO,US,g];exact AD hc (YQ g) OA
 have m:=hc.len;obtain⟨_,C⟩:∃p,p∈ZN k:=List.exists_mem_of_ne_nil _ B;obtain⟨E,_,m,rfl⟩:=Rh.1 C;obtain⟨_,_,z,_,_⟩:=f E (MP t m) m;have F:=Dd hc z (d:=d) OA;refine Prod.ext (oH λx=> ?_) (eo λx=> ?_)
 .rw[ax,aT B];constructor
  .rintro⟨_,h⟩ j hj;obtain⟨i,F,hi,rfl⟩:=Rh.1 hj;have z:=MP t hi;obtain⟨s,_,_,e1,e2⟩:=f i z hi;rw[e2,<-e1];exact h i z (by rw[KH A OA];exact hi)
  .intro h;constructor
   .have:=h _ C;obtain⟨s,_,g,_,e2⟩:=f E (MP t m) m;rw[e2]at this;have:=Dd hc g (d:=d) OA;omega
   .intro i hi hh;rw[KH A OA]at hh;obtain⟨s,_,_,e1,e2⟩:=f i hi hh;rw[e1,<-e2];exact h i (Rh.2 ⟨i,OA,hh,rfl⟩)
 .rw[dE,GA B];constructor
  .rintro⟨_,h⟩ j hj;obtain⟨i,F,hi,rfl⟩:=Rh.1 hj;have z:=MP t hi;obtain⟨s,_,_,e1,e2⟩:=f i z hi;rw[e2,<-e1];exact h i z (by rw[KH A OA];exact hi)
  .intro h;constructor
   .have:=h _ C;obtain⟨s,_,g,_,e2⟩:=f E (MP t m) m;rw[e2]at this;have:=Dd hc g (d:=d) OA;omega
   .intro i hi hh;rw[KH A OA]at hh;obtain⟨s,_,_,e1,e2⟩:=f i hi hh;rw[e1,<-e2];exact h i (Rh.2 ⟨i,OA,hh,rfl⟩)
def Wh(r0 r1 r2 r3:Int)(S:List Rs)(l:List Int):Bool:=l.all λi=>match S[i.toNat]? with
 |some s=>decide ((Qa r0 r1 r2 r3 S s.a l).1<=(Qa r0 r1 r2 r3 S s.a l).2)
 |none=>ND
def H0(r0 r1 r2 r3:Int)(s t:Rs):Prop:=(spV r0 r1 r2 r3 s s.a).1<=(spV r0 r1 r2 r3 t s.a).2
def Ii(B:∀p∈l,0<=p/\p<S.length)(A:l≠[]){d:Int}(C:0<=d/\d<=90):(Qa r0 r1 r2 r3 S d l).1<=(Qa r0 r1 r2 r3 S d l).2↔∀i∈l,∀j∈l,∀s t,S[i.toNat]? =U s->S[j.toNat]? =U t->(spV r0 r1 r2 r3 s d).1<=(spV r0 r1 r2 r3 t d).2:=by
 have f:∀i s,S[i.toNat]? =U s->PO r0 r1 r2 r3 S d i=spV r0 r1 r2 r3 s d:=by
  intro i s g;simp only[PO,g];exact AD hc (YQ g) C
 rw[aT A];constructor
 .intro h i hi j m s t g z;have:=h i hi;rw[GA A]at this;have:=this j m;rw[f i s g,f j t z]at this;exact this
 .intro h i hi;rw[GA A];intro j m;have E:=B i hi;have E:=B j m;obtain⟨s,g⟩:∃s,S[i.toNat]? =U s:=⟨_,YH OA⟩;obtain⟨t,z⟩:∃s,S[j.toNat]? =U s:=⟨_,YH OA⟩;rw[f i s g,f j t z];exact h i hi j m s t g z
def pj(m:∀p∈l,0<=p/\p<S.length):Wh r0 r1 r2 r3 S l=NC↔∀i∈l,∀j∈l,∀s t,S[i.toNat]? =U s->S[j.toNat]? =U t->H0 r0 r1 r2 r3 s t:=by
 unfold Wh H0;rw[YL];constructor
 .intro h i hi j g s t d z;have f:=h i hi;rw[d]at f;simp only[XE]at f;rw[Ii hc m (List.ne_nil_of_mem hi) ((hc.ok s (YQ d)).1)]at f;exact f i hi j g s t d z
 .intro h i hi;have A:=m i hi;obtain⟨s,d⟩:∃s,S[i.toNat]? =U s:=⟨_,YH OA⟩;rw[d];simp only[XE];rw[Ii hc m (List.ne_nil_of_mem hi) ((hc.ok s (YQ d)).1)];intro B d j g A t i z;have f:=h B d j g A t i z;have d:=BK hc A t s.a;omega
def EL{k:Nat}(m:k<2 ^ S.length):Zz (cvS r0 r1 r2 r3 (S.map Ze)) k S.length=Wh r0 r1 r2 r3 S (ZN k):=by
 have H:=hc.len;have C:∀p∈ZN k,0<=p/\p<S.length:=by
  intro p M;obtain⟨i,_,hi,rfl⟩:=Rh.1 M;have:=MP m hi;omega
 by_cases f:ZN k=[]
 .rw[f];have L:∀i,i<8->k.testBit i=ND:=by
   intro i hi;cases hb:k.testBit i with
   |false=>rfl
   |true=>
    have:(i:Int)∈ZN k:=Rh.2 ⟨i,hi,hb,rfl⟩;rw[f]at this;cases this
  have K:k<256:=YS m (by have:=SF (n:=2) OA hc.len;exact this);have B:∀d n,n<=8->atF (cvS r0 r1 r2 r3 (S.map Ze)) k d n=(-1099511627776,1099511627776):=by
   intro d n
   induction n with
   |zero=>intro _;rfl
   |succ n O=>
    intro _;rw[atF,KH K OA,L n OA,XB OC,O OA]
  rw[Zz,S6,show Wh r0 r1 r2 r3 S []=NC from rfl,YL];intro d _;rw[B d _ H];decide
 .rw[TP,pj hc C,Zz,S6,YL];constructor
  .intro h i hi j E s t z A;have F:=(hc.ok s (YQ z)).1;have g:=h s.a.toNat (YU.2 OA);simp only[XE]at g;rw[ac hc m f OA,Int.toNat_of_nonneg F.1,Ii hc C f F]at g;exact g i hi j E s t z A
  .intro h d hd;have T:=YU.1 hd;simp only[XE];rw[ac hc m f OA,Ii hc C f OA];intro i hi j E s t z A;have g:=h i hi j E s t z A;unfold H0 at g;have P:=BK hc s t d;omega
end
def LB(a b:Nat):Prop:=∃x,x<8/\a.testBit x=NC/\b.testBit x=ND/\∀j,j<x->a.testBit j=b.testBit j
def LB.trans{a b c:Nat}:LB a b->LB b c->LB a c:=by
 rintro⟨x,t,m,g,f⟩ ⟨y,i,k1,k2,k3⟩;rcases QV x y with h|h|h
 .exact⟨x,t,m,by rw[<-k3 x h];exact g,λj d=>(f j d).trans (k3 j OA)⟩
 .subst h;rw[g]at k1;cases k1
 .exact⟨y,i,by rw[f y h];exact k1,k2,λj d=>(f j OA).trans (k3 j d)⟩
def LB.irrefl(h:LB a a):False:=by
 obtain⟨x,_,f,d,_⟩:=h;rw[f]at d;cases d
def low_all:(List.range 256).all (λx=>x==0||(decide (tz x<8)&&bits .and NF (x:Int) (wrap64 (-(x:Int)))==((2 ^ tz x:Nat):Int)&&x.testBit (tz x)&&(List.range (tz x)).all λj=> !x.testBit j))=NC:=OB
def and_all:(List.range 256).all (λa=>(List.range 8).all λi=>(bits .and NF (a:Int) ((2 ^ i:Nat):Int) !=0)==a.testBit i)=NC:=OB
def B7(g:a<256)(i:b<256):bits .xor NF (a:Int) (b:Int)=((a ^^^ b:Nat):Int):=by
 have d:a ^^^ b<2 ^ 8:=Nat.xor_lt_two_pow OA OA;have f:(BitVec.ofInt 64 (a:Int)).toNat=a:=by
  rw[BitVec.ofInt_natCast,BitVec.toNat_ofNat];exact Nat.mod_eq_of_lt OA
 have d:(BitVec.ofInt 64 (b:Int)).toNat=b:=by
  rw[BitVec.ofInt_natCast,BitVec.toNat_ofNat];exact Nat.mod_eq_of_lt OA
 show IntKind.i64.wrap ((BitVec.ofInt 64 (a:Int) ^^^ BitVec.ofInt 64 (b:Int)).toNat:Int)=_;rw[BitVec.toNat_xor,f,d,IntKind.wrap_i64];omega
def bX(m:a<256)(F:b<256)(B:a≠b):∃i,i<8/\a.testBit i≠b.testBit i/\(∀j,j<i->a.testBit j=b.testBit j)/\Sq a b=a.testBit i:=by
 have H:a ^^^ b<2 ^ 8:=Nat.xor_lt_two_pow OA OA;have A:a ^^^ b≠0:=λh=>B (Nat.eq_of_testBit_eq λi=>by have g:=RJ (λx=>x.testBit i) h;simp[Nat.testBit_xor]at g;exact g)
 have z:=YL.1 low_all _ (YU.2 H);simp only[UF,YG,XU,XE,A,false_or,YL,YU]at z;obtain⟨⟨⟨t,E⟩,d⟩,C⟩:=z;have f:=YL.1 (YL.1 and_all a (YU.2 m)) _ (YU.2 t);rw[XU]at f;refine⟨tz (a ^^^ b),t,?_,?_,?_⟩
 .rw[Nat.testBit_xor]at d;intro e;rw[e]at d;simp at d
 .intro j hj;have:=C j hj;rw[Nat.testBit_xor]at this;cases h:a.testBit j<;>cases h':b.testBit j<;>simp[h,h']at this⊢
 .unfold Sq;rw[B7 m F,E,f];have:((((a ^^^ b:Nat):Int)) !=0)=NC:=by simp[A]
  rw[this,TS]
def BX(d:a<256)(f:b<256):Sq a b=NC↔LB a b:=by
 by_cases g:a=b
 .subst g;constructor
  .intro h;unfold Sq at h;rw[B7 d d]at h;simp at h
  .exact λh=>h.irrefl.elim
 .obtain⟨i,h1,h2,h3,h4⟩:=bX d f g;rw[h4];constructor
  .intro h;refine⟨i,h1,h,?_,h3⟩;cases f:b.testBit i with|false=>rfl|true=>rw[h,f]at h2;exact absurd rfl h2
  .rintro⟨x,hx,k1,k2,k3⟩;rcases QV x i with h|h|h
   .rw[h3 x h,k2]at k1;cases k1
   .subst h;exact k1
   .exact absurd (k3 i h) h2
def LB.total(A:a<256)(d:b<256)(t:a≠b):LB a b\/LB b a:=by
 obtain⟨i,g,f,m,_⟩:=bX A d t;cases h:a.testBit i with|true=>exact .inl ⟨i,g,h,by cases d:b.testBit i with|false=>rfl|true=>rw[h,d]at f;exact absurd rfl f,m⟩|false=>exact .inr ⟨i,g,by cases d:b.testBit i with|true=>rfl|false=>rw[h,d]at f;exact absurd rfl f,h,λj z=>(m j z).symm⟩
def Lx:List Int->List Int->Prop
 |_,[]=>False
 |[],_::_=>True
 |x::t,y::u=>x<y\/(x=y/\Lx t u)
def chooseR_lx:∀(s:List Int),s.Pairwise (·<·)->(chooseR s).Pairwise Lx
 |[],_=>by simp[chooseR]
 |x::t,hs=>by
  have d:=chooseR_lx t (QD hs);have f:∀c∈(chooseR t).tail,∃y u,c=y::u/\y∈t:=by
   intro c hc;have g:=chooseR_ne t c hc;have i:=chooseR_mem t c (List.mem_of_mem_tail hc);cases c with|nil=>exact absurd rfl g|cons y c=>exact⟨y,c,rfl,i.subset YY⟩
  rw[chooseR,List.pairwise_cons];constructor
  .intro c hc;rcases VI.1 hc with h|h
   .obtain⟨y,_,rfl⟩:=VW.1 h;trivial
   .obtain⟨y,u,rfl,_⟩:=f c h;trivial
  .rw[RB];refine⟨?_,?_,?_⟩
   .rw[List.pairwise_map];exact d.imp λh=> .inr ⟨rfl,h⟩
   .rw[chooseR_head t]at d;exact QD d
   .intro a ha b hb;obtain⟨y,_,rfl⟩:=VW.1 ha;obtain⟨z,u,rfl,j⟩:=f b hb;exact .inl (SC hs j)
def lx_first:∀{la d:List Int},la.Pairwise (·<·)->d.Pairwise (·<·)->Lx la d->la.length=d.length->∃x,x∈la/\x∉d/\∀j,j<x->(j∈la↔j∈d)
 |la,[],_,_,h,_=>by cases la<;>exact h.elim
 |[],_::_,_,_,_,h=>by simp at h
 |x::t,y::u,ha,hb,h,hl=>by
  rcases h with h|⟨rfl,h⟩
  .have hyu:∀q∈y::u,y<=q:=by
    intro q hq;rcases XG.1 hq with rfl|hq
    .exact RN _
    .exact Int.le_of_lt (SC hb hq)
   refine⟨x,YY,λg=>by have:=hyu x g;omega,λj f=>⟨λhm=> ?_,λhm=> ?_⟩⟩
   .rcases XG.1 hm with rfl|hm
    .omega
    .have:=SC ha hm;omega
   .have:=hyu j hm;omega
  .obtain⟨z,h1,h2,h3⟩:=lx_first (QD ha) (QD hb) h (by simpa using hl);have i:=SC ha h1;refine⟨z,YW _ h1,λhm=> ?_,λj f=> ?_⟩
   .rcases XG.1 hm with rfl|hm
    .omega
    .exact h2 hm
   .rw[XG,XG,h3 j f]
def upL(n:Nat):List Int:=(List.range n).map fun(i:Nat)=>(i:Int)
def CP(l:List Int):Nat:=l.foldl (λm i=>m+2 ^ i.toNat) 0
def choose_all:(List.range 9).all (λn=>(chooseR (upL n)).all λl=>decide (CP l<2 ^ n)&&ZN (CP l)==l)=NC:=OB
def set_all:(List.range 9).all (λn=>(List.range (2 ^ n)).all λk=>(ZN k).isSublist (upL n))=NC:=OB
def ld(d:n<=8){l:List Int}(h:l∈chooseR (upL n)):∃k,k<2 ^ n/\l=ZN k:=by
 have:=YL.1 (YL.1 choose_all n (YU.2 OA)) l h;simp only[YG,XE,XU]at this;exact⟨_,this.1,this.2.symm⟩
def bw{k:Nat}(f:n<=8)(d:k<2 ^ n):ZN k∈chooseR (upL n):=by
 have:=YL.1 (YL.1 set_all n (YU.2 OA)) k (YU.2 d);exact mem_chooseR _ _ (List.isSublist_iff_sublist.1 this)
def ce(k:Nat):(ZN k).Pairwise (·<·):=by
 rw[ZN,List.pairwise_map,bl];exact(List.Pairwise.filter _ List.pairwise_lt_range).imp λh=>by omega
def lx_LB(h:Lx (ZN a) (ZN b))(f:(ZN a).length=(ZN b).length):LB a b:=by
 obtain⟨x,m,g,t⟩:=lx_first (ce a) (ce b) h f;obtain⟨i,hi,z,rfl⟩:=Rh.1 m;refine⟨i,hi,z,?_,λj _=> ?_⟩
 .cases U3:b.testBit i with
  |false=>rfl
  |true=>exact absurd (Rh.2 ⟨i,hi,U3,rfl⟩) g
 .have h4:=t (j:Int) OA;have d:∀c:Nat,(j:Int)∈ZN c↔c.testBit j=NC:=by
   intro c;rw[Rh];constructor
   .rintro⟨i',_,h,e⟩;have:i'=j:=OA;subst this;exact h
   .exact λh=>⟨j,OA,h,rfl⟩
  rw[d,d]at h4;exact TP.2 h4
structure Bt(bt:Int->Int->Bool):Prop where
 asym:∀a b,bt a b=NC->bt b a=NC->False
 trans:∀a b c,bt a b=NC->bt b c=NC->bt a c=NC
 total:∀a b,a≠b->bt a b=NC\/bt b a=NC
def bt_lt:Bt λa b=>decide (a<b):=⟨λa b h d=>by simp at h d;omega,λa b c h d=>by simp at h d⊢;omega,λa b h=>by simp;omega⟩
def bt_gt:Bt λa b=>decide (b<a):=⟨λa b h d=>by simp at h d;omega,λa b c h d=>by simp at h d⊢;omega,λa b h=>by simp;omega⟩
def BetS(d:Int->Int->Bool)(a b:Nat):Prop:=d (bl a).length (bl b).length=NC\/((bl a).length=(bl b).length/\LB a b)
def BetS.trans{d:Int->Int->Bool}(g:Bt d){a b c:Nat}:BetS d a b->BetS d b c->BetS d a c:=by
 rintro(h|⟨h,f⟩) (k|⟨k,i⟩)
 .exact .inl (g.trans _ _ _ h k)
 .exact .inl (by rw[<-k];exact h)
 .exact .inl (by rw[h];exact k)
 .exact .inr ⟨h.trans k,f.trans i⟩
def dz{f:Nat->Bool}{d:Int->Int->Bool}(z:Bt d):∀n,n<=256->((Zm f d n).2=ND->(Zm f d n).1=0/\∀k,k<n->f k=ND)/\((Zm f d n).2=NC->f (Zm f d n).1=NC/\(Zm f d n).1<n/\∀k,k<n->f k=NC->k=(Zm f d n).1\/BetS d (Zm f d n).1 k)
 |0,_=>by simp[Zm]
 |n+1,hn=>by
  obtain⟨j,g⟩:=dz (f:=f) z n OA;have A:=Fs f d n OA;rw[Zm];cases hf:f n with
  |false=>
   rw[QR,XB OC];refine⟨λh=>⟨(j h).1,λk t=> ?_⟩,λh=>⟨(g h).1,by have:=(g h).2.1;omega,λk t i=> ?_⟩⟩
   .by_cases e:k=n
    .subst e;exact hf
    .exact(j h).2 k OA
   .by_cases e:k=n
    .subst e;rw[hf]at i;cases i
    .exact(g h).2.2 k OA i
  |true=>
   rw[TS];by_cases hc:(!(Zm f d n).2||d (bl n).length (bl (Zm f d n).1).length||((bl n).length==(bl (Zm f d n).1).length&&Sq n (Zm f d n).1))=NC
   .rw[YZ hc];refine⟨λh=>(by cases h),λ_=>⟨hf,OA,λk t i=> ?_⟩⟩;by_cases e:k=n
    .exact .inl e
    .right
     show BetS d n k;cases Mx:(Zm f d n).2 with
     |false=>rw[(j Mx).2 k OA]at i;cases i
     |true=>
      rw[Mx]at hc;simp only[SZ,TU,UF,YG,XU]at hc;have B:BetS d n (Zm f d n).1:=by
       rcases hc with hc|⟨hc,m⟩
       .exact .inl hc
       .exact .inr ⟨hc,(BX OA A).1 m⟩
      rcases(g Mx).2.2 k OA i with rfl|h2
      .exact B
      .exact B.trans z h2
   .rw[XB hc];cases Mx:(Zm f d n).2 with
    |false=>rw[Mx]at hc;simp at hc
    |true=>
     rw[Mx]at hc;simp only[SZ,TU,UF,YG,XU,not_or,not_and]at hc;refine⟨λh=>(by cases h),λ_=>⟨(g Mx).1,by have:=(g Mx).2.1;omega,λk t i=> ?_⟩⟩;by_cases e:k=n
     .subst e;right;by_cases m:(bl k).length=(bl (Zm f d k).1).length
      .have G2:=hc.2 m;rw[BX OA A]at G2;have C:k≠(Zm f d k).1:=(by have:=(g Mx).2.1;omega);exact .inr ⟨m.symm,(LB.total OA A C).resolve_left G2⟩
      .exact .inl ((z.total _ _ (λh=>m OA)).resolve_left hc.1)
     .exact(g Mx).2.2 k OA i
def LZ(f:List Int->Bool)(d:Int->Int->Bool)(b:List Int×Bool)(g:List (List Int)):List Int×Bool:=g.foldl (λb l=>if(!b.2||d l.length b.1.length)&&f l then(l,NC)else b) b
def Db(f:List Int->Bool)(g:Int->Int->Bool)(d:List (List Int))(b:List Int×Bool):Prop:=
 (b.2=ND->b.1=[]/\∀l∈d,f l=ND)/\(b.2=NC->f b.1=NC/\b.1∈d/\∀l∈d,f l=NC->l=b.1\/g b.1.length l.length=NC\/(b.1.length=l.length/\Lx b.1 l))
def bT{f:List Int->Bool}{z:Int->Int->Bool}(E:Bt z):∀(A d:List (List Int))(b:List Int×Bool),(d++A).Pairwise Lx->Db f z d b->Db f z (d++A) (LZ f z b A)
 |[],d,b,_,h=>by rw[TB];exact h
 |l::A,d,b,hp,h=>by
  have e:d++l::A=(d++[l])++A:=OD
  rw[e]at hp⊢;refine bT E A (d++[l]) _ hp ?_;show Db f z (d++[l]) (if((!b.2||z l.length b.1.length)&&f l)=NC then(l,NC)else b);have C:∀j∈d,Lx j l:=by
   intro j g;have B:=(RB.1 hp).1;exact(RB.1 B).2.2 j g l OD
  obtain⟨B,t⟩:=h;cases hf:f l with
  |false=>
   rw[Bool.and_false,XB OC];refine⟨λi=>⟨(B i).1,λj g=> ?_⟩,λi=>⟨(t i).1,QI _ (t i).2.1,λj g m=> ?_⟩⟩
   .rcases VI.1 g with hm|hm
    .exact(B i).2 j hm
    .rw[XP.1 hm];exact hf
   .rcases VI.1 g with hm|hm
    .exact(t i).2.2 j hm m
    .rw[XP.1 hm,hf]at m;cases m
  |true=>
   rw[Bool.and_true];by_cases hc:(!b.2||z l.length b.1.length)=NC
   .rw[YZ hc];refine⟨λh=>(by cases h),λ_=>⟨hf,OD,λj g m=> ?_⟩⟩;rcases VI.1 g with hm|hm
    .right
     show z l.length j.length=NC\/_;cases i:b.2 with
     |false=>rw[(B i).2 j hm]at m;cases m
     |true=>
      rw[i]at hc;simp only[SZ,TU]at hc;left;rcases(t i).2.2 j hm m with rfl|h3|⟨h3,_⟩
      .exact hc
      .exact E.trans _ _ _ hc h3
      .rw[<-h3];exact hc
    .exact .inl (XP.1 hm)
   .rw[XB hc];have i:b.2=NC:=by
     cases i:b.2 with|true=>rfl|false=>rw[i]at hc;simp at hc
    rw[i]at hc;simp only[SZ,TU]at hc;refine⟨λh=>(by rw[i]at h;cases h),λ_=>⟨(t i).1,QI _ (t i).2.1,λj g m=> ?_⟩⟩;rcases VI.1 g with hm|hm
    .exact(t i).2.2 j hm m
    .rw[XP.1 hm];right;by_cases F:b.1.length=l.length
     .exact .inr ⟨F,C _ (t i).2.1⟩
     .exact .inl ((E.total _ _ (λh=>F OA)).resolve_right hc)
def aO(E:n<=8){f:Nat->Bool}{g:List Int->Bool}{d:Int->Int->Bool}(j:Bt d)(C:∀k,k<2 ^ n->f k=g (ZN k)):ZN (Zm f d (2 ^ n)).1=(LZ g d ([],ND) (chooseR (upL n))).1:=by
 have i:2 ^ n<=256:=by have:=SF (n:=2) OA E;exact this
 obtain⟨K,H⟩:=dz (f:=f) j (2 ^ n) i;have T:(upL n).Pairwise (·<·):=by
  rw[upL,List.pairwise_map];exact List.pairwise_lt_range.imp λh=>by omega
 obtain⟨k1,k2⟩:=bT (f:=g) j (chooseR (upL n)) [] ([],ND) (by rw[YJ];exact chooseR_lx _ T) ⟨λ_=>⟨rfl,λl P=>by cases P⟩,λh=>by cases h⟩;rw[YJ]at k1 k2;cases hp:(LZ g d ([],ND) (chooseR (upL n))).2 with
 |false=>
  have O:=(k1 hp).2;have:(Zm f d (2 ^ n)).2=ND:=by
   cases z:(Zm f d (2 ^ n)).2 with
   |false=>rfl
   |true=>
    have A:=H z;have t:=O _ (bw E A.2.1);rw[<-C _ A.2.1,A.1]at t;cases t
  rw[(K this).1,(k1 hp).1];rfl
 |true=>
  obtain⟨k3,k4,k5⟩:=k2 hp;obtain⟨m,F,em⟩:=ld E k4;have z:(Zm f d (2 ^ n)).2=NC:=by
   cases z:(Zm f d (2 ^ n)).2 with
   |true=>rfl
   |false=>
    have:=(K z).2 m F;rw[C m F,<-em,k3]at this;cases this
  obtain⟨A,t,M⟩:=H z;rcases k5 _ (bw E t) (by rw[<-C _ t];exact A)with k6|k6
  .exact k6
  .rcases M m F (by rw[C m F,<-em];exact k3)with rfl|h6
   .exact em.symm
   .exfalso;rw[em]at k6;have B:∀k,(ZN k).length=(bl k).length:=λk=>by simp[ZN]
    rw[B,B]at k6;rcases h6 with h6|⟨h6,L⟩<;>rcases k6 with k6|⟨k6,k7⟩
    .exact j.asym _ _ h6 k6
    .rw[k6]at h6;exact j.asym _ _ h6 h6
    .rw[h6]at k6;exact j.asym _ _ k6 k6
    .exact(L.trans (lx_LB k7 (by rw[B,B];exact k6))).irrefl
def kP(r0 r1 r2 r3:Int)(S:List Rs):List Int:=(LZ (λl=> !Wh r0 r1 r2 r3 S l) (λa b=>decide (a<b)) ([],ND) (chooseR (upL S.length))).1
def AU(r0 r1 r2 r3:Int)(S:List Rs):List Int:=(chooseR (upL S.length)).foldl (λb l=>if decide (b.length<l.length)&&Wh r0 r1 r2 r3 S l then l else b) []
def qa{r0 r1 r2 r3:Int}{S:List Rs}(hc:CardOk r0 r1 r2 r3 S):IF r0 r1 r2 r3 S=kP r0 r1 r2 r3 S:=
 aO hc.len bt_lt λk d=>by
  rw[EL hc d];cases Wh r0 r1 r2 r3 S (ZN k)<;>rfl
def jp{r0 r1 r2 r3:Int}{S:List Rs}(hc:CardOk r0 r1 r2 r3 S):IP r0 r1 r2 r3 S=AU r0 r1 r2 r3 S:=by
 have h:=aO (n:=S.length) hc.len bt_gt (f:=λk=>Zz (cvS r0 r1 r2 r3 (S.map Ze)) k S.length==NC) (g:=Wh r0 r1 r2 r3 S) λk t=>by
  rw[EL hc t];cases Wh r0 r1 r2 r3 S (ZN k)<;>rfl
 refine Eq.trans h ?_;rw[AU,chooseR_head,LZ,VU,VU];have e:Wh r0 r1 r2 r3 S []=NC:=rfl;simp only[e,Bool.not_false,QM,Bool.and_self,XY,XW,Nat.lt_irrefl,decide_false,QR,YR,VF];generalize (chooseR (upL S.length)).tail=d;have j:∀(d:List (List Int))(b:List Int),(d.foldl (fun(b:List Int×Bool) l=>if(!b.2||decide ((b.1.length:Int)<(l.length:Int)))&&Wh r0 r1 r2 r3 S l then(l,NC)else b) (b,NC)).1=d.foldl (λb l=>if decide (b.length<l.length)&&Wh r0 r1 r2 r3 S l then l else b) b:=by
  intro d
  induction d with
  |nil=>intro b;rfl
  |cons l d m=>
   intro b;rw[VU,VU];have e:((!NC||decide ((b.length:Int)<(l.length:Int)))&&Wh r0 r1 r2 r3 S l)=(decide (b.length<l.length)&&Wh r0 r1 r2 r3 S l):=OD
   show(d.foldl _ (if((!NC||decide ((b.length:Int)<(l.length:Int)))&&Wh r0 r1 r2 r3 S l)=NC then(l,NC)else(b,NC))).1=_;rw[e];by_cases i:(decide (b.length<l.length)&&Wh r0 r1 r2 r3 S l)=NC
   .rw[YZ i,YZ i];exact m l
   .rw[XB i,XB i];exact m b
 exact j d []
def MT(r0 r1 r2 r3:Int)(S:List Rs)(a m k:Int):Int:=firstV (Zy r0 r1 r2 r3 S [Zv a,Tf m k])
def hitV(x:Int×Int)(m k:Int):Int:=if max x.1 (wrap64 (m - k))=x.1/\min x.2 (wrap64 (m+k))=x.2 then 1 else if min x.2 (wrap64 (m+k))<max x.1 (wrap64 (m - k))then 2 else 0
def Pv(r0 r1 r2 r3:Int)(S:List Rs)(a m k:Int):Int:=if MT r0 r1 r2 r3 S a m k=0 then hitV (PL r0 r1 r2 r3 S a) m k else 0
def Su{i j:Nat}(d:c≠b)(h:w.heap[c]? =U o):((w.setCell ⟨b,i,NB⟩ u).setCell ⟨b,j,NB⟩ v).heap[c]? =U o:=
 (set_ne (w:=w.setCell _ _) d _).trans ((set_ne d _).trans h)
def nG(r0 r1 r2 r3:Int)(t:Option Addr)(n E:Nat)(w:World)(A mark m:Int)(S:List Rs)(A1:S.length=n)(hS:RawS w t S)(E7:Most w):
 Calls prog 27 #[NJ #[r0,r1,r2,r3,Z t n E],A,mark,m] w λe M=>
  e= .returned (.tuple #[NE NF (Pv r0 r1 r2 r3 S A mark m),NE NF (MT r0 r1 r2 r3 S A mark m)])/\Ext w M:=by
 go_enter fk Tryz.func27,Tryz.ntmps27;go_wp2_with fail;have Af:Ext w _:=(((Ext.rfl' w).alloc (I #[r0,r1,r2,r3,Z t n E] 31)).alloc (I #[mark] 3)).alloc (I #[m] 3);have T:(((w.alloc (I #[r0,r1,r2,r3,Z t n E] 31)).alloc (I #[mark] 3)).alloc (I #[m] 3)).heap[w.heap.size]? =U (I #[r0,r1,r2,r3,Z t n E] 31):=by
  simp only[Z3,Z2];rw[XB OA,XB OA,YZ trivial]
 have hZ:(((w.alloc (I #[r0,r1,r2,r3,Z t n E] 31)).alloc (I #[mark] 3)).alloc (I #[m] 3)).heap[w.heap.size+1]? =U (I #[mark] 3):=by
  simp only[Z3,Z2];rw[XB OA,YZ trivial]
 have hY:(((w.alloc (I #[r0,r1,r2,r3,Z t n E] 31)).alloc (I #[mark] 3)).alloc (I #[m] 3)).heap[w.heap.size+1+1]? =U (I #[m] 3):=by
  simp only[Z3,Z2];rw[YZ trivial]
 generalize World.alloc _ _=w1 at Af T hZ hY⊢;have C:=Ext.rfl' w1;have q0:=Z0 T 0;have q1:=Z0 T 1;have q2:=Z0 T 2;have q3:=Z0 T 3;have q4:=Z0 T 4;simp only[YC,YA,YB]at q0 q1 q2 q3 q4;have g0:=ZQ q0;have g1:=ZQ q1;have g2:=ZQ q2;have g3:=ZQ q3;have g4:=ZQ q4;have a1:w1.cell? ⟨w.heap.size+1,0,NB⟩=U (NE NF mark):=by rw[Z0 hZ];rfl
 have a5:w1.cell? ⟨w.heap.size+1+1,0,NB⟩=U (NE NF m):=by rw[Z0 hY];rfl
 refine Rt 10 9 10 [0,1,2,3,4,5,6,7] (I #[NE NF 0,NE NF 0,NE NF 0,NE NF 0,Z NB 0 0,Z NB 0 0] 136) OB rfl OB rfl rfl (λa W=>by simp[go_sem,execOp,Act.eval]) ?_;refine WT [0,1,3] OB rfl rfl OB ?_;simp only[ZR,YB,YA,YK,YJ]
 repeat (go_big_quiet_step (fail))
 refine XI ?_;refine WV 2 rfl OB rfl (λW z=>Yd (f:=68) (args:= #[A]) OE ?_);refine(LP A W).mono ?_;rintro e _ ⟨p0,rfl,K,Es⟩;refine⟨.func (.func 112) #[] #[J (U p0)],rfl,K,?_⟩;replace C:=C.trans (z.trans K);clear K z;go_simp;refine WV 4 rfl OB rfl (λW z=>Ye ⟨Z (U W.heap.size) 2 2,W.alloc (I #[.func (.func 112) #[] #[J (U p0)],.func (.func 71) #[] #[J (U ⟨w.heap.size+1,0,NB⟩),J (U ⟨w.heap.size+1+1,0,NB⟩)]] 129),OE,(Ext.rfl' W).alloc _,?_⟩);have Bb:=HB W #[.func (.func 112) #[] #[J (U p0)],.func (.func 71) #[] #[J (U ⟨w.heap.size+1,0,NB⟩),J (U ⟨w.heap.size+1+1,0,NB⟩)]] [(112,#[],#[J (U p0)]),(71,#[],#[J (U ⟨w.heap.size+1,0,NB⟩),J (U ⟨w.heap.size+1+1,0,NB⟩)])] W.heap.size rfl rfl;have K:=(z.alloc (I #[.func (.func 112) #[] #[J (U p0)],.func (.func 71) #[] #[J (U ⟨w.heap.size+1,0,NB⟩),J (U ⟨w.heap.size+1+1,0,NB⟩)]] 129));replace C:=C.trans K
 replace Es:=K.cellS Es;clear K z;generalize W.heap.size=B2 at Bb⊢;generalize World.alloc W _=V9 at*;go_simp;refine WV 5 rfl OB rfl (λW z=>Yd (f:=67) (args:= #[NJ #[r0,r1,r2,r3,Z t n E],Z (U B2) 2 2]) OE ?_)
 refine(Ie r0 r1 r2 r3 t n E W 2 B2 OA [(112,#[],#[J (U p0)]),(71,#[],#[J (U ⟨w.heap.size+1,0,NB⟩),J (U ⟨w.heap.size+1+1,0,NB⟩)])] [Zv A,Tf mark m] rfl rfl (λj x hj=>z.cellS (Bb j x hj)) (by intro x hx args M;simp only[XG,XO,UE]at hx;rcases hx with rfl|rfl<;>simp[go_sem]) (by
       intro j x r hj hr M a0
       match j,hj,hr with
       |0,hj,hr=>
        obtain rfl:=YT hj;obtain rfl:=YT hr;exact L6 p0 A M ((z.trans a0).cellS Es)
       |1,hj,hr=>
        obtain rfl:=YT hj;obtain rfl:=YT hr;exact lv _ _ mark m M ((C.trans (z.trans a0)).cellS a1) ((C.trans (z.trans a0)).cellS a5)) S A1 (hS.ext (Af.trans (C.trans z))) (E7.ext (Af.trans (C.trans z)))).mono ?_
 rintro e a7 ⟨k0,k1,k2,k3,b4,n4,c4,b5,n5,c5,rfl,K,D3⟩;refine⟨.tuple #[NJ #[k0,k1,k2,k3,Z b4 n4 c4,Z b5 n5 c5],NE NF (firstV (Zy r0 r1 r2 r3 S [Zv A,Tf mark m]))],rfl,K,?_⟩;replace C:=C.trans (z.trans K);have L:Askd r0 r1 r2 r3 t n E S [Zv A,Tf mark m] k0 k1 k2 k3 b4 n4 c4 b5 n5 c5 a7:=λh=>by obtain⟨B,p,h0,h1,h2,h3,h4,h5,h6,h7,h8,h9,hC,_⟩:=D3 h;exact⟨B,p,h0,h1,h2,h3,h4,h5,h6,h7,h8,h9,hC⟩
 clear K z D3 Bb Es;go_simp;refine WT [6,7,8] OB rfl rfl OB ?_;simp only[ZR,YB,YA,YK,YJ]
 repeat (go_big_quiet_step (fail))
 refine XI ?_;refine Qh OB (λW z b hA C5 F=> ?_);have Gv:w1.heap.size<=b:=hA.1.1.1;replace C:=C.trans z;replace L:=L.ext z;clear a1 a5;clear z;go_simp;refine Vk 2 OB (λW z=> ?_);simp only[UD,VZ];replace C:=C.trans z;replace L:=L.ext z;replace F:=z.get F;have Eb:w.heap.size<=b:=by have h1:=Gv;have h2:=Af.size;omega
 have Vz:=C.get hZ;have Y6:w.heap.size+1≠b:=by have h1:=Gv;have h2:=Z5 hZ;omega
 have W0:=C.get hY;have Y7:w.heap.size+1+1≠b:=by have h1:=Gv;have h2:=Z5 hY;omega
 have P:=Af.trans C;clear hA Gv C5 z C Af T q0 q1 q2 q3 q4 g0 g1 g2 g3 g4 hZ hY;have x0:=Z8 F 0;have x1:=Z8 F 1;have x2:=Z8 F 2;have x3:=Z8 F 3;have x4:=Z8 F 4;have x5:=Z8 F 5;have y0:=Z0 F 0;have y1:=Z0 F 1;have y2:=Z0 F 2;have y3:=Z0 F 3;have y4:=Z0 F 4;have y5:=Z0 F 5;simp only[YC,YA,YB]at y0 y1 y2 y3 y4 y5;have Al:=HC F (NE NF k0) (NE NF k1) (NE NF k2) (NE NF k3) (Z b4 n4 c4) (Z b5 n5 c5);obtain⟨C,Et⟩:=Al;replace L:=L.stored F Et;replace P:=Et.before P Eb;have O1:=Et.get Y6 Vz;have Pb:=Et.get Y7 W0;go_wp2_with fail;generalize ((((((W.setCell b (NE NF k0)).setCell ⟨b,1,NB⟩ (NE NF k1)).setCell ⟨b,2,NB⟩ (NE NF k2)).setCell ⟨b,3,NB⟩ (NE NF k3)).setCell ⟨b,4,NB⟩ (Z b4 n4 c4)).setCell ⟨b,5,NB⟩ (Z b5 n5 c5))=X at C L P Et O1 Pb⊢;clear Et F Eb x0 x1 x2 x3 x4 x5 y0 y1 y2 y3 y4 y5 Vz W0;refine Vm ?_;go_wp2_with fail
 .have Ab:(firstV (Zy r0 r1 r2 r3 S [Zv A,Tf mark m]) !=0)=NC:=by assumption
  have Cg:¬MT r0 r1 r2 r3 S A mark m=0:=by simpa[MT]using Ab
  go_ret2;exact⟨by rw[Pv,XB Cg];rfl,P⟩
 .have heq:(firstV (Zy r0 r1 r2 r3 S [Zv A,Tf mark m]) !=0)=ND:=by assumption
  have Cg:firstV (Zy r0 r1 r2 r3 S [Zv A,Tf mark m])=0:=by simpa using heq
  obtain⟨Hs,Hr,Dm,Q2⟩:=Iz Cg;obtain⟨_,h8,_⟩:=PH Hs;have Dj:=LI (Hr (Zv A) OD);obtain⟨d,rfl⟩:=UA Dj.1;have Fj:d<=90:=OA
  obtain⟨B,p',_,e1,e2,e3,e4,_,_,e7,_,_,hC⟩:=L Cg;subst k0 k1 k2 k3 b4 n4 c4 b5 n5 c5;have Fc:n<=8:=OA
  have C3:=λv M=>N9 r0 r1 r2 r3 t n E v Fc M
  have O:=λM a6 a8=>LY r0 r1 r2 r3 (Z t n E) B n d (2 ^ n - 1) p' (cvS r0 r1 r2 r3 (S.map Ze)) Fc Fj (KI Fc) M a6 a8
  have HV:Hid (PL r0 r1 r2 r3 S d=atF (cvS r0 r1 r2 r3 (S.map Ze)) (2 ^ n - 1) d n):=by
   show _=_;rw[PL,US,A1]
  have Du:Hid (MT r0 r1 r2 r3 S d mark m=0):=Cg;have Hd:=E7.ext P;clear L Hs Hr Dm Q2 heq Cg Dj;generalize (2:Int) ^ n - 1=st at C3 O HV;generalize atF (cvS r0 r1 r2 r3 (S.map Ze)) st d n=V at O HV;obtain⟨va,vb⟩:=V;have x0:=Z0 C 0;have x1:=Z0 C 1;have x2:=Z0 C 2;have x3:=Z0 C 3;have x4:=Z0 C 4;have x5:=Z0 C 5;simp only[YC,YA,YB]at x0 x1 x2 x3 x4 x5;have c0:=ZQ x0;have c1:=ZQ x1;have c2:=ZQ x2;have c3:=ZQ x3;have c4:=ZQ x4;have c5:=ZQ x5;refine Rt 6 5 12 [0,1,2,3,4] (I OH 49) OB rfl OB rfl rfl (λa W=>by simp[go_sem,execOp,Act.eval]) ?_;refine WT [0,1,3] OB rfl rfl OB ?_;simp only[ZR,YB,YA,YK,YJ]
  repeat (go_big_quiet_step (fail))
  refine XI ?_;refine Mf 2 (f:=70) (args:= #[NJ #[r0,r1,r2,r3,Z t n E,Z (U B) n n]]) (v:= NE NF st) OB rfl rfl rfl OB rfl (λW=>by simp[go_sem,execOp,Act.eval]) (λW _=>C3 _ W) ?_;go_simp;refine Mf 4 (f:=69) (args:= #[NJ #[r0,r1,r2,r3,Z t n E,Z (U B) n n],st,d]) (v:= NJ #[va,vb]) OB rfl rfl rfl OB rfl (λW=>by simp[go_sem,execOp,Act.eval]) (λW z=>O W (Hd.ext z) (hC.ext z)) ?_;go_simp;refine Qh OB (λW z b hA C5 F=> ?_);obtain⟨H,rfl⟩:∃H,H=b:=⟨_,rfl⟩;have Ag:=z;clear z;go_simp;refine Vk 1 OB (λW z=> ?_);simp only[UD,VZ];replace F:=z.get F;have Cl:=(P.trans Ag).trans z;have Eb:w.heap.size<=H:=by have h1:=hA;have h2:=P.size;omega
  have Iw:=set_pair F (NE NF va) (NE NF vb);have My:=(Cl.setCell H (NE NF va) Eb).setCell ⟨H,1,NB⟩ (NE NF vb) Eb;have g:=Zc F;have g0:=g.1;have g1:=g.2.1;have g2:=g.2.2.1;have g3:=g.2.2.2;have a2:=Su (w:=W) (b:=H) (i:=0) (j:=1) (u:= NE NF va) (v:= NE NF vb) (by have h1:=Z5 O1;omega) (z.get (Ag.get O1));have a3:=Su (w:=W) (b:=H) (i:=0) (j:=1) (u:= NE NF va) (v:= NE NF vb) (by have h1:=Z5 Pb;omega) (z.get (Ag.get Pb));clear O1 Pb;clear g Cl P z Ag Eb hA C5 Hd C3 O C x0 x1 x2 x3 x4 x5 c0 c1 c2 c3 c4 c5 hC;go_wp2_with fail;generalize (W.setCell H (NE NF va)).setCell ⟨H,1,NB⟩ (NE NF vb)=Y at*;clear g0 g1 g2 g3 F;refine Vm ?_;have g:=Zc Iw;have g0:=g.1;have g1:=g.2.1;have g2:=g.2.2.1;have g3:=g.2.2.2;have hm:=Z0 a2 0;have hw:=Z0 a3 0;simp only[YC,YA,YB]at hm hw;clear a2 a3;go_wp2_with (first|(go_at_call 72;refine(aA _ _ _ _ _).r λw9 Bn=> ?_;have a4:=Zc (Bn.get Iw);have j0:=a4.1;have j1:=a4.2.1;have Lr:H<w9.heap.size:=Z5 (Bn.get Iw);have a9:∀(o:Obj)(i:Nat),(w9.alloc o).cell? ⟨H,i,NB⟩=w9.cell? ⟨H,i,NB⟩:=λo i=>World.cell?_alloc_lt _ _ _ Lr))
  all_goals
   go_ret2;refine⟨?_,(My.trans Bn).alloc _⟩;rw[Pv,YZ Du.out,Du.out,HV.out];simp at*;rw[hitV]
   first|rw[YZ OA]|(rw[XB OA];first|rw[YZ OA]|rw[XB OA])
end Go.Proofs.Tryq
