import Derived.Test.YthahddndgbpooaaGreatDoorNk17
set_option linter.all false
set_option maxRecDepth 100000
set_option maxHeartbeats 4000000
open Go Go.Nk Go.RowKit
open Go.Obj renaming cells->I
open Go.Value renaming slice->J,int->NE,agg->NJ
open Option renaming some->U,none->NB
open Bool renaming false->Z,true->NC
open Go renaming World->NL,Calls->NW,execOp->NU,Addr->NP,Value->NM
open Go.IntKind renaming i64->NF
variable {s:ByteArray}{m:Int}{l:List Int}{B b ib n:Nat}{v:NM}{W a c w w':NL}
namespace Go.Proofs.Tryq
def Pz(a b c m:Int)(L:List Sf):List (List Int):=if Zo a b c m L []=0 then Zk (Zt a b c L L.length (λ_=>Z) m.toNat [] 0) L.length 0 (λ_=>Z)else[]
def inL(S:List (List Int))(i:Nat):Bool:=S.any λl=>l.contains (i:Int)
def Ut(n:Nat)(S:List (List Int)):List Int:=((List.range n).filter λi=> !inL S i).map fun(i:Nat)=>(i:Int)
def OV(a b c m:Int)(L:List Sf):List Int:=if Zo a b c m L []=0 then Ut L.length (Pz a b c m L)else[]
def qO(S:List (List Int))(l:List Int)(i:Nat):inL (S++[l]) i=(inL S i||l.contains (i:Int)):=by simp[inL,List.any_append]
def pi(S:List (List Int))(i:Nat):Ut (i+1) S=if inL S i=NC then Ut i S else Ut i S++[(i:Int)]:=by
 rw[Ut,List.range_succ,List.filter_append,QL];cases h:inL S i<;>simp[Ut,h]
def gY(n:Nat)(S:List (List Int)):(Ut n S).length<=n:=by
 have:=QC (λi=> !inL S i) (List.range n);simpa[Ut]using this
def HN{T:List (List Int)}:∀(d i:Nat)(u:Nat->Bool),∀l∈Zk T d i u,l∈T
 |0,_,_,l,h=>by cases h
 |d+1,i,u,l,h=>by
  have j:∀(P:List Int->Prop)(a b:List (List Int)),(∀l∈a,P l)->(∀l∈b,P l)->∀l∈WJ a b,P l:=λP a b h _=>by unfold WJ;split<;>assumption
  have o:∀(B e:List (List Int)),(∀l∈B,l∈T)->(∀l∈e,l∈T)->∀l∈B.foldl (ZL u (Zk T d (i+1))) e,l∈T:=by
   intro B
   induction B with
   |nil=>exact λe _ h=>h
   |cons x B p=>
    intro e g f;rw[VU];refine p _ (λl hl=>g l (YW _ hl)) ?_;unfold ZL;split
    .exact f
    .refine j _ _ _ f λl hl=> ?_
     rcases XG.1 hl with rfl|hl
     .exact g _ YY
     .exact HN d (i+1) _ l hl
  rw[Zk]at h;exact j _ _ _ (o _ _ (λl hl=>(UO.1 hl).1) (λl hl=>by cases hl)) (λl hl=>HN d (i+1) u l hl) l h
def pZ{e:List (List Int)}(h:Shr B w v e){j:Nat}{l:List Int}(C:e[j]? =U l)(p:l≠[]):
 ∃gr f d cl,v= J (U ⟨gr,0,NB⟩) e.length f/\B<=gr/\gr<w.heap.size/\w.cell? ⟨gr,j,NB⟩=U (J (U ⟨d,0,NB⟩) l.length cl)/\OwnI B w (J (U ⟨d,0,NB⟩) l.length cl) l/\B<=d/\d<w.heap.size/\l.length<=cl:=by
 obtain⟨_,P,x,o⟩:=h;have L:=o.length;have V:j<e.length:=(YI.1 C).1;obtain⟨gr,f,rfl,H,K⟩:=x.form OA;obtain⟨u,O,M⟩:=o.get j l C;have F:=x.cells (g:=gr) rfl j u O;rw[ZU]at F;have T:0<l.length:=List.length_pos_iff.2 p;obtain⟨_,⟨h,_⟩|⟨d,cl,i,rfl,y,t,A,_⟩⟩:=M
 .subst h;rename_i E z;simp at z;exact absurd z p
 .rename_i E hq;exact⟨gr,f,d,cl,by rw[L],H,K,F,⟨E,.inr ⟨d,cl,i,rfl,y,t,A,hq⟩⟩,y,Z5 t,A⟩
def Shr.belowX{g:List (List Int)}(h:Shr B w v g)(o:BelowX w.heap.size ib w w')(p:ib<B):Shr B w' v g:=by
 have d:∀{e:TypeId}{v:NM}{n:Nat}{f:List NM},w.ownsRow B e 1 v n f->w'.ownsRow B e 1 v n f:=λh=>JK h λk e=>o.block k (h.lt k e).2 (by have:=(h.lt k e).1;omega)
 obtain⟨j,e,i,f⟩:=h;exact⟨j,e,d i,f.mono λu s h=>d h⟩
def Shr.le{B d:Nat}{w:NL}{v:NM}{f:List (List Int)}(h:Shr B w v f)(e:d<=B):Shr d w v f:=by
 obtain⟨o,g,j,i⟩:=h;exact⟨o,g,WX j e,i.mono λu s h=>OwnI.le h e⟩
def BelowX.of_ext{b:NL}(h:BelowX B ib a b)(e:Ext b c)(d:B<=b.heap.size):BelowX B ib a c:=
 h.trans (Oj e d)
def mB(a b c m:Int)(d:Option NP)(n A:Nat)(L:List Sf)(w:NL)(A1:L.length=n)(hn:n<=20)(hM:Meas w)(hS:RawA w d L):
 NW prog 23 #[NJ #[a,b,c,m,J d n A]] w λe w'=>∃v1 v2,e= .returned (.tuple #[v1,v2,NE NF (Zo a b c m L [])])/\Shr w.heap.size w' v1 (Pz a b c m L)/\OwnI w.heap.size w' v2 (OV a b c m L)/\Ext w w':=by
 have ho:=λW E=>J7 a b c m d n A L NB 0 0 [] W A1 hn rfl OA (hM.ext E) (hS.ext E) (λi x hx=>by simp at hx)
 by_cases h:Zo a b c m L []=0
 .obtain⟨hG,_,Q3,hm⟩:=IM h;have Ps:Pz a b c m L=Zk (Zt a b c L n (λ_=>Z) m.toNat [] 0) n 0 (λ_=>Z):=by rw[Pz,YZ h,A1]
  have A3:OV a b c m L=Ut n (Pz a b c m L):=by rw[OV,YZ h,A1]
  have Cc:=λW E=>cn a b c m d n A L (λ_=>Z) W hG A1 OA hm (hM.ext E) (hS.ext E)
  have Cp:∀l∈Zk (Zt a b c L n (λ_=>Z) m.toNat [] 0) n 0 (λ_=>Z),(∀p∈l,0<=p/\p<(n:Int))/\l.length=m.toNat:=λl hl=>by
   have:=IY a b c L n (λ_=>Z) m.toNat [] 0 l (HN _ _ _ l hl) OD List.Pairwise.nil;exact⟨this.2.1,by simpa using this.2.2⟩
  have a6:=J9 (Zt a b c L n (λ_=>Z) m.toNat [] 0) n 0 (λ_=>Z);rw[A3,Ps];rw[h]at ho⊢;generalize Zk (Zt a b c L n (λ_=>Z) m.toNat [] 0) n 0 (λ_=>Z)=S at Cc Cp a6⊢;simp only[Zs]at Cc;clear Ps A3 h;go_enter fk Tryz.func23,Tryz.ntmps23
  go_wp2_with (first
   |(go_at_call 55;refine(ho _ OF).r λt A2=> ?_
     have Ad:Ext w t:=Ext.trans OF A2;have E1:t.heap[w.heap.size]? =U (I #[a,b,c,m,J d n A] 26):=A2.get (by simp only[Z3,Z2];exact YZ trivial))
   |(go_at_call 59;refine(Cc _ OF).mono ?_;rintro e z ⟨v,rfl,Vn,y⟩
     obtain⟨ao,cp,rfl⟩:=Vn.form;have As:Ext w z:=Ext.trans OF y;have Al:=((Ext.rfl' t).alloc _).alloc _ |>.trans y |>.get E1
     have Hu:z.heap[t.heap.size+1]? =U (I (Zs (inL (S.take 0))) 125):=y.get (by simp only[Z3,Z2];exact YZ trivial);simp only[Z2]at Vn))
  have a1:=Z5 Hu;clear ho Cc A2 y;have Vo:=Z0 Al 4;simp only[YC,YA,YB]at Vo;go_loopw [2,24] (λv2 V wr=>∃j,j<=S.length/\V= NE NF j/\BelowX z.heap.size (t.heap.size+1) z wr/\wr.heap[t.heap.size+1]? =U (I (Zs (inL (S.take j))) 125)/\Shr z.heap.size wr v2 (S.take j)) (λ_ V _=>S.length - (intOf V).toNat)
  case atStart=>exact⟨0,XL _,rfl,BelowX.refl _ _ _,Hu,Shr.nil _ _⟩
  case round=>
   obtain⟨j,_,rfl,C,hi,K6⟩:=hrel;clear Hu;by_cases Kk:j=S.length
   .subst Kk;rw[TC]at hi K6;have Gn:wr.cell? ⟨w.heap.size,4,NB⟩=U (J d n A):=by
     rw[<-Vo];simp only[World.cell?,C.block w.heap.size (Z5 Al) (by have:=Ad.size;omega)]
    have Eb:=C.size;go_wp2;obtain⟨H,rfl⟩:∃H:NL,H=wr:=⟨_,rfl⟩;go_loopw [3,46] (λv3 T wz=>∃i:Nat,i<=n/\T= NE NF i/\Ext H wz/\OwnI H.heap.size wz v3 (Ut i S)) (λ_ T _=>n - (intOf T).toNat)
    case atStart=>exact⟨0,XL _,rfl,Ext.rfl' _,VJ _ _ _ _⟩
    case round=>
     obtain⟨i,_,rfl,Sq,Ac⟩:=hrel;by_cases G6:i=n
     .subst G6;go_wp2;refine VE (results_tmp3 rfl _ _ _) rfl ?_;refine⟨_,_,rfl,(K6.ext Sq).le (by have:=As.size;omega),Ac.le (by have:=As.size;omega),?_⟩;exact(BelowX.ext C As (by have:=Ad.size;omega) As.size).trans Sq
     .have A5:i<n:=OA;have Xi:=Z0 (Sq.get hi) i;rw[Oo _ i OA]at Xi;have D8:(0:Int)<=(i:Int):=OA;have b6:(i:Int)<9:=OA;have b9:(i:Int)<(n:Int):=OA;have Cj:=gY i S;have b3:=Sq.size;have O:=pi S i;cases hb:inL S i with
      |true=>
       rw[hb]at Xi O;rw[YZ rfl]at O;rw[<-O]at Ac;clear O Cj;go_wp2;exact⟨⟨i+1,OA,by push_cast;rfl,Sq,Ac⟩,by simp[intOf];omega⟩
      |false=>
       rw[hb]at Xi O;rw[XB OC]at O;have a0:Hid (Ut (i+1) S=Ut i S++[(i:Int)]):=O;clear O
       go_wp2_with (
        at_builtin
        refine UB _ rfl _ _ _ rfl H.heap.size 3 Tryz.t3 (NE NF 0) 1 8 Go.Proofs.Tryq.u27 i3 t3z t3s t3b rfl OA _ _ _ rfl (Ac.alloc _) wr.heap.size 1 1 [NE NF i] rfl rfl (WU _ _ _) (by intro u hu;simp at hu;subst hu;rfl) (by simp[maxLen];omega) OA (by simp;omega) ?_;intro v' P J2 H7 _;have Bn:Ext H P:=(Sq.alloc _).grown H7 (λk hk=>(Ac.lt k hk).1))
       exact⟨⟨i+1,OA,by push_cast;rfl,Bn,by rw[a0.out];simpa[OwnI]using J2⟩,by simp[intOf];omega⟩
   .have Dx:j<S.length:=OA;obtain⟨l,hl⟩:∃l,S[j]? =U l:=⟨_,YH Dx⟩;obtain⟨Ff,Ox⟩:=Cp l (YQ hl);have Mm:0<l.length:=OA;have Lr:l.length<=9:=OA;clear Ox;obtain⟨gr,cr,F,cl,Uz,_,Nu,Ib,Gh,_,Lo,E0⟩:=pZ Vn hl (by rintro rfl;simp at Mm);obtain⟨rfl,rfl⟩:ao=U ⟨gr,0,NB⟩/\cp=cr:=(by simpa using Uz);replace Ib:wr.cell? ⟨gr,j,NB⟩=U (J (U F) l.length cl):=by
     rw[<-Ib];simp only[World.cell?,C.block gr Nu OA]
    have Nr:∀W,Ext wr W->∀(j:Nat) u,(l.map (Value.int NF))[j]? =U u->W.cell? ⟨F,j,NB⟩=U u:=by
     intro W E j u hu;have:=Gh.cells (g:=F) rfl j u hu;rw[ZU]at this;refine E.cellS ?_;rw[<-this];simp only[World.cell?,C.block F Lo OA]
    have Lw:=λW E=>aS F l.length cl l W rfl Mm OA E0 (by have:=C.size;have:=(E:Ext wr W).size;omega) (Nr W E)
    obtain⟨a2,c2,rfl⟩:=K6.form;have R2:=K6;obtain⟨Ll,vs,Fp,K7⟩:=K6;have a8:(S.take j).length=j:=(by rw[VN];omega);have Nv:=K7.length;rw[Nv]at Fp;rw[a8]at Fp Ll Nv R2⊢;have b4:(0:Int)<=(j:Int):=OA;have b7:(j:Int)<(S.length:Int):=OA
    go_wp2_with (first
     |(go_at_call 60;refine(Lw _ OF).mono ?_;rintro e Y ⟨g',o,rfl,a4,y⟩)
     |(at_builtin
       refine UB _ rfl _ _ _ rfl z.heap.size 57 Tryz.t57 (J NB 0 0) 1 24 u57 i27 t27z t27s t27b rfl OA (J a2 j c2) _ _ rfl ((ZT Fp y).alloc _) Y.heap.size 1 1 [J (U g') l.length o] rfl rfl (WU _ _ _) (by intro u hu;rw[XP.1 hu];rfl) (by simp[maxLen];omega) OA (by simp only[Z2];have:=y.size;have:=C.size;omega) ?_;intro v' P J2 H7 _))
    have K:(Y.alloc (I #[J (U g') l.length o] 57)).grownBy P (Value.ownBlock (J a2 j c2)):=H7;clear H7;have Vp:Shr z.heap.size (Y.alloc (I #[J (U g') l.length o] 57)) (J a2 j c2) (S.take j):=(R2.ext y).ext ((Ext.rfl' Y).alloc _);have a7:=C.size;have P1:=y.size;have Vq:BelowX z.heap.size (t.heap.size+1) z P:=by
     refine(C.of_ext (y.alloc (I #[J (U g') l.length o] 57)) C.size).trans ⟨K.os,K.tape,K.output,K.size,λk hk _=>K.block k (by simp only[Z2];omega) (λe=>by have:=(Vp.lt e.symm).1;omega)⟩
    have a9:P.heap[t.heap.size+1]? =U (I (Zs (inL (S.take j))) 125):=(K.block _ (by simp only[Z2];omega) (λe=>by have:=(Vp.lt e.symm).1;omega)).trans (((y.alloc _).get hi));have a5:Shr z.heap.size P v' (S.take (j+1)):=by
     rw[T4 hl];refine⟨λh=>by simp at h,vs++[J (U g') l.length o],by simpa[Nv]using J2,Each.append (K7.mono λu s h=>OwnI.grownRow (OwnI.ext (OwnI.ext h y) ((Ext.rfl' Y).alloc _)) Vp K) ⟨OwnI.grownRow (OwnI.ext (OwnI.le a4 a7) ((Ext.rfl' Y).alloc _)) Vp K,trivial⟩⟩
    clear K Vp Fp K7 Nv Ll R2 J2 a4 Ib Nr Lw;obtain⟨H,rfl⟩:∃H:NL,H=wr:=⟨_,rfl⟩;go_loopw [35] (λX wz=>∃k:Nat,k<=l.length/\X= NE NF k/\BelowX P.heap.size (t.heap.size+1) P wz/\wz.heap[t.heap.size+1]? =U (I (Zs (λi=>inL (S.take j) i||(l.take k).contains (i:Int))) 125)) (λX _=>l.length - (intOf X).toNat)
    case atStart=>exact⟨0,XL _,rfl,BelowX.refl _ _ _,by rw[a9,KG];intro i _;simp⟩
    case round=>
     obtain⟨k,hk,rfl,M,Vr⟩:=hrel;by_cases Gx:k=l.length
     .subst Gx;rw[TC]at Vr;have a3:wr.heap[t.heap.size+1]? =U (I (Zs (inL (S.take (j+1)))) 125):=by
       rw[Vr,KG];intro i _;rw[T4 hl,qO]
      have b1:BelowX z.heap.size (t.heap.size+1) z wr:=Vq.trans ⟨M.os,M.tape,M.output,by have:=M.size;have:=Vq.size;omega,λk hk Ab=>M.block k (by have:=Vq.size;omega) Ab⟩;have b0:=a5.belowX M a1;go_wp2;exact⟨⟨j+1,OA,by push_cast;rfl,b1,a3,b0⟩,by simp[intOf];omega⟩
     .obtain⟨p,hp⟩:∃p,l[k]? =U p:=⟨_,YH OA⟩;have Qn:=Ff p (YQ hp);obtain⟨q,rfl⟩:=UA Qn.1;have Qx:q<9:=OA;have El:=Gh.cells (g:=F) rfl k (NE NF q) (by rw[List.getElem?_map,hp];rfl);rw[ZU]at El;replace El:wr.cell? ⟨F,k,NB⟩=U (NE NF q):=by
       rw[<-El];simp only[World.cell?,M.block F (by have:=Vq.size;omega) OA,Vq.block F Lo OA]
      have b8:=Z8 Vr q;have Sm:=Z0 Vr q;rw[Oo _ q Qx]at Sm;generalize (inL (S.take j) q||(l.take k).contains (q:Int))=bq at Sm;have Xx:(0:Int)<=(k:Int):=OA;have b5:(k:Int)<(l.length:Int):=OA;have Tj:(0:Int)<=(q:Int):=OA;have b2:(q:Int)<9:=OA;go_wp2;have hA:=VT wr ⟨t.heap.size+1,q,NB⟩ (.bool NC);refine⟨⟨k+1,OA,by push_cast;rfl,M.trans ⟨hA.os,hA.tape,hA.output,by rw[hA.size];exact XA _,λb _ Ab=>hA.block b Ab⟩,?_⟩,by simp[intOf];omega⟩;rw[Zb Vr,EP _ q Qx,KG];intro i _;have e9:(i==q)=decide ((i:Int)=(q:Int)):=(by rw[TP];simp;omega);rw[T4 hp,e9];simp[Bool.or_assoc]
 .have Ps:Pz a b c m L=[]:=by rw[Pz,XB h]
  have A3:OV a b c m L=[]:=by rw[OV,XB h]
  have Ab:(Zo a b c m L [] !=0)=NC:=by simpa using h
  rw[Ps,A3];generalize Zo a b c m L []=f at ho Ab⊢;go_enter fk Tryz.func23,Tryz.ntmps23
  go_wp2_with (
   go_at_call 55;refine(ho _ OF).r λt A2=> ?_
   have Ad:Ext w t:=Ext.trans OF A2)
  refine VE (results_tmp3 rfl _ _ _) rfl ?_;exact⟨_,_,rfl,Shr.nil _ _,VJ _ _ _ _,Ad.alloc _⟩
section
variable [Tw]
def P7(a b:Int)(w:NL):NW gp 30 #[a,b] w (OI (NJ #[a,b]) w):=by
 go_enter fk Tryz.func30,Tryz.ntmps30;go_wp2;refine VE (v:= NJ #[a,b]) ((Q7 rfl _ _ _).trans ?_) rfl ⟨rfl,(Ext.rfl' w).alloc _⟩;simp[go_sem]
def ZP{a b:Bool}(h:a=b):Ending.returned (.bool a)=Ending.returned (.bool b):=by rw[h]
def MK{α:Type}{l:List α}(h:l.length=n):l.drop n=[]:=by rw[<-h,UW]
def I5{α:Type}[DecidableEq α]{l k:List α}{i:Nat}{x y:α}(e:l[i]? =U x)(d:k[i]? =U y):decide (l.drop i=k.drop i)=(decide (x=y)&&decide (l.drop (i+1)=k.drop (i+1))):=by
 rw[WP e,WP d,TP];simp
def JR(O:Option NP)(e c1:Nat)(l:List Int)(P:Option NP)(f c2:Nat)(k:List Int)(w:NL)(M:l.length=e)(K:k.length=f)(d:e<=1000000/\f<=1000000)(hl:RawI w O l)(V:RawI w P k):
 NW gp 35 #[J O e c1,J P f c2] w (OI (.bool (decide (l=k))) w):=by
 by_cases o:e=f
 .have H:Hid (decide (l=k)=decide (l.drop 0=k.drop 0)):=rfl;subst o;obtain⟨n,o⟩:∃n,n=e:=⟨_,rfl⟩;subst o;go_enter fk Tryz.func35,Tryz.ntmps35;go_wp2;go_loopw [5] (λv wr=>∃i:Nat,i<=n/\v= NE NF i/\Ext w wr/\Hid (decide (l=k)=decide (l.drop i=k.drop i))) (λv _=>n - (intOf v).toNat)
  case atStart=>exact⟨0,XL _,rfl,Ext.rfl' w,H⟩
  case round=>
   obtain⟨i,hi,rfl,g,C⟩:=hrel;clear H;by_cases Ao:i=n
   .subst Ao;have z:decide (l=k)=NC:=(by rw[C.out,MK M,MK K];rfl);go_wp2;go_ret;exact⟨ZP (a:=NC) z.symm,g⟩
   .have A5:i<n:=OA;obtain⟨x,E⟩:∃x,l[i]? =U x:=⟨_,YH OA⟩;obtain⟨y,A⟩:∃y,k[i]? =U y:=⟨_,YH OA⟩;obtain⟨_,_,rfl,_,Y⟩:=(hl.ext g) i x E;obtain⟨_,_,rfl,_,t⟩:=(V.ext g) i y A;go_wp2_with fail;have p:=ZQ Y;have F:=ZQ t;refine Z9 9 OB ?_;refine ZS [0,1,2,3,4,5,6,7,8] OB OB ?_;simp only[ZR,YB,YA,YK,YJ]
    repeat (go_big_quiet_step (fail))
    refine XI ?_;refine Yt OB (λW X=> ?_);have T:=X;clear p F;have L:=g.trans T;by_cases j:x=y
    .have d:(x !=y)=Z:=(by simpa using j);have u:Hid (decide (l=k)=decide (l.drop (i+1)=k.drop (i+1))):=(by show _=_;rw[C.out,I5 E A,VB j,TS]);rw[d];clear d;go_wp2;go_roundw
     case rel=>exact⟨i+1,OA,by push_cast;rfl,L,u⟩
     case measure=>simp[intOf];omega
    .have d:(x !=y)=NC:=(by simpa using j);have u:decide (l=k)=Z:=(by rw[C.out,I5 E A,XV j,QR]);rw[d];clear d;go_wp2;go_ret;exact⟨ZP (a:=Z) u.symm,L⟩
 .have z:decide (l=k)=Z:=XV λh=>o (by rw[<-M,<-K,h])
  have a0:¬(e:Int)=(f:Int):=OA
  go_enter fk Tryz.func35,Tryz.ntmps35;go_wp2;go_ret;exact⟨ZP (a:=Z) z.symm,Ext.rfl' w⟩
def RawL(w:NL)(e:Option NP)(h:List (List Int)):Prop:=∀(i:Nat)(l:List Int),h[i]? =U l->∃b d f g,e=U ⟨b,d,NB⟩/\b<w.heap.size/\w.cell? ⟨b,d+i,NB⟩=U (J f l.length g)/\l.length<=1000000/\RawI w f l
def RawL.ext{w w':NL}{d:Option NP}{g:List (List Int)}(h:RawL w d g)(e:Ext w w'):RawL w' d g:=by
 intro i l hi;obtain⟨b,f,y,u,p,j,x,o,t⟩:=h i l hi;exact⟨b,f,y,u,p,e.lt j,e.cellS x,o,t.ext e⟩
def OwnI.rawI(h:OwnI b w v l):∃j d,v= J j l.length d/\RawI w j l/\l.length<=d:=by
 by_cases p:l=[]
 .subst p;rcases h.2 with⟨rfl,_⟩|⟨g,d,_,rfl,_⟩
  .exact⟨NB,0,rfl,λi x f=>by simp at f,XL _⟩
  .exact⟨_,d,rfl,λi x f=>by simp at f,XL _⟩
 .rcases h.2 with⟨rfl,t⟩|⟨g,d,e,rfl,y,z,o,u⟩
  .simp at t;exact absurd t p
  .exact⟨_,d,rfl,OwnI.raw (b:=b) ⟨h.1,.inr ⟨g,d,e,rfl,y,z,o,u⟩⟩,o⟩
def Shr.rawL{e:List (List Int)}(h:Shr b w v e)(p:∀l∈e,l.length<=1000000):∃d f,v= J d e.length f/\RawL w d e:=by
 obtain⟨d,f,rfl⟩:=h.form;refine⟨d,f,rfl,λi l f=> ?_⟩;obtain⟨_,_,o,j⟩:=h;have t:=j.length;have hi:=(YI.1 f).1;obtain⟨g,_,u,_,t⟩:=o.form OA;obtain⟨rfl,_⟩:d=U ⟨g,0,NB⟩/\_:=by simpa using u
 obtain⟨u,y,x⟩:=j.get i l f;have d:=o.cells (g:=g) rfl i u y;rw[ZU]at d;obtain⟨j,i,rfl,o,_⟩:=x.rawI;exact⟨g,0,j,i,rfl,t,by rw[VD];exact d,p l (YQ f),o⟩
def fS(a1:Option NP)(e c1:Nat)(l:List (List Int))(a2:Option NP)(g c2:Nat)(k:List (List Int))(w:NL)(h1:l.length=e)(V:k.length=g)(d:e<=1000000/\g<=1000000)(hl:RawL w a1 l)(hk:RawL w a2 k):
 NW gp 34 #[J a1 e c1,J a2 g c2] w (OI (.bool (decide (l=k))) w):=by
 by_cases t:e=g
 .have H:Hid (decide (l=k)=decide (l.drop 0=k.drop 0)):=rfl;subst t;obtain⟨n,t⟩:∃n,n=e:=⟨_,rfl⟩;subst t;go_enter fk Tryz.func34,Tryz.ntmps34;go_wp2;go_loopw [5] (λv wr=>∃i:Nat,i<=n/\v= NE NF i/\Ext w wr/\Hid (decide (l=k)=decide (l.drop i=k.drop i))) (λv _=>n - (intOf v).toNat)
  case atStart=>exact⟨0,XL _,rfl,Ext.rfl' w,H⟩
  case round=>
   obtain⟨i,hi,rfl,o,O⟩:=hrel;clear H;by_cases Ao:i=n
   .subst Ao;have F:decide (l=k)=NC:=(by rw[O.out,MK h1,MK V];rfl);go_wp2;go_ret;exact⟨ZP (a:=NC) F.symm,o⟩
   .have A5:i<n:=OA;obtain⟨x,P⟩:∃x,l[i]? =U x:=⟨_,YH OA⟩;obtain⟨y,M⟩:∃y,k[i]? =U y:=⟨_,YH OA⟩;obtain⟨_,_,ax,cx,rfl,_,Hl,L,z⟩:=(hl.ext o) i x P;obtain⟨_,_,ay,X,rfl,_,A,K,E⟩:=(hk.ext o) i y M;go_wp2_with fail;have u:=ZQ Hl;have T:=ZQ A;refine Z9 10 OB ?_;refine ZS [0,1,2,3,4,5,6,7] OB OB ?_;simp only[ZR,YB,YA,YK,YJ]
    repeat (go_big_quiet_step (fail))
    refine XI ?_;refine Z4 8 (f:=35) (args:= #[J ax x.length cx,J ay y.length X]) (v:= .bool (decide (x=y))) OB rfl OB rfl (λW=>by simp[go_sem,NU,Act.eval]) (λW j=>JR ax x.length cx x ay y.length X y _ rfl rfl ⟨L,K⟩ (z.ext j) (E.ext j)) ?_;go_simp;refine ZS [9] OB OB ?_;simp only[ZR,YB,YA,YK,YJ]
    repeat (go_big_quiet_step (fail))
    refine XI ?_;refine Yt OB (λW j=> ?_);have Bj:=j;clear u T;have Y:=o.trans Bj;by_cases p:x=y
    .have d:(!decide (x=y))=Z:=(by simpa using p);have C:Hid (decide (l=k)=decide (l.drop (i+1)=k.drop (i+1))):=(by show _=_;rw[O.out,I5 P M,VB p,TS]);rw[d];clear d;go_wp2;go_roundw
     case rel=>exact⟨i+1,OA,by push_cast;rfl,Y,C⟩
     case measure=>simp[intOf];omega
    .have d:(!decide (x=y))=NC:=(by simpa using p);have C:decide (l=k)=Z:=(by rw[O.out,I5 P M,XV p,QR]);rw[d];clear d;go_wp2;go_ret;exact⟨ZP (a:=Z) C.symm,Y⟩
 .have F:decide (l=k)=Z:=XV λh=>t (by rw[<-h1,<-V,h])
  have a0:¬(e:Int)=(g:Int):=OA
  go_enter fk Tryz.func34,Tryz.ntmps34;go_wp2;go_ret;exact⟨ZP (a:=Z) F.symm,Ext.rfl' w⟩
def N7(n lo hi:Int)(w:NL):NW gp 52 #[n,lo,hi] w (OJ (.bool (decide (lo<=n/\n<=hi))) w):=by
 by_cases d:lo<=n
 .by_cases h2:n<=hi
  .go_enter fk Tryz.func52,Tryz.ntmps52;go_wp2;go_ret;exact⟨ZP (a:=NC) (by rw[TP];simp<;>omega),rfl⟩
  .go_enter fk Tryz.func52,Tryz.ntmps52;go_wp2;go_ret;exact⟨ZP (a:=Z) (by rw[TP];simp<;>omega),rfl⟩
 .go_enter fk Tryz.func52,Tryz.ntmps52;go_wp2;go_ret;exact⟨ZP (a:=Z) (by rw[TP];simp<;>omega),rfl⟩
def inR(n lo hi:Int):Bool:=decide (lo<=n/\n<=hi)
def PC(n lo hi:Int)(w:NL):NW gp 52 #[n,lo,hi] w (OJ (.bool (inR n lo hi)) w):=N7 n lo hi w
def IV(a b lo hi:Int)(w:NL):NW gp 54 #[NJ #[a,b],lo,hi] w (OI (.bool (decide (lo<=a/\a<=b/\b<=hi))) w):=by
 have f:=λn w=>PC n lo hi w
 have H:Hid (decide (lo<=a/\a<=b/\b<=hi)=(inR a lo hi&&(inR b lo hi&&decide (a<=b)))):=by
  show _=_;simp only[inR];rw[TP];simp;omega
 cases h1:inR a lo hi with
 |false=>
  have d:=f a;simp only[h1]at d;rw[h1]at H;go_enter fk Tryz.func54,Tryz.ntmps54;go_wp2_with (go_at_call 52;(with_reducible refine(d _).q ?_));go_ret;exact⟨ZP (a:=Z) (by rw[H.out];simp),(Ext.rfl' w).alloc _⟩
 |true=>
  have d:=f a;simp only[h1]at d;rw[h1]at H;cases h2:inR b lo hi with
  |false=>
   have e:=f b;simp only[h2]at e;rw[h2]at H;go_enter fk Tryz.func54,Tryz.ntmps54;go_wp2_with (first|go_at_call 52;(with_reducible refine(d _).q ?_)|go_at_call 52;(with_reducible refine(e _).q ?_));go_ret;exact⟨ZP (a:=Z) (by rw[H.out];simp),(Ext.rfl' w).alloc _⟩
  |true=>
   have e:=f b;simp only[h2]at e;rw[h2]at H;go_enter fk Tryz.func54,Tryz.ntmps54;go_wp2_with (first|go_at_call 52;(with_reducible refine(d _).q ?_)|go_at_call 52;(with_reducible refine(e _).q ?_));go_ret;exact⟨ZP (a:=decide (a<=b)) (by rw[H.out];simp),(Ext.rfl' w).alloc _⟩
def AI(c:UInt8)(w:NL):NW gp 97 #[NE .u8 c.toNat] w (OJ (.bool (WY c.toNat)) w):=by
 by_cases d:(97:Int)<=c.toNat
 .by_cases h2:(c.toNat:Int)<=122
  .go_enter fk Tryz.func97,Tryz.ntmps97;go_wp2;go_ret;exact⟨ZP (a:=NC) (VB OA).symm,rfl⟩
  .go_enter fk Tryz.func97,Tryz.ntmps97;go_wp2;go_ret;exact⟨ZP (a:=Z) (XV OA).symm,rfl⟩
 .go_enter fk Tryz.func97,Tryz.ntmps97;go_wp2;go_ret;exact⟨ZP (a:=Z) (XV OA).symm,rfl⟩
def BR(c:UInt8)(w:NL):NW gp 98 #[NE .u8 c.toNat] w (OJ (.bool (S0 c.toNat)) w):=by
 by_cases d:(48:Int)<=c.toNat
 .by_cases h2:(c.toNat:Int)<=57
  .go_enter fk Tryz.func98,Tryz.ntmps98;go_wp2;go_ret;exact⟨ZP (a:=NC) (VB OA).symm,rfl⟩
  .go_enter fk Tryz.func98,Tryz.ntmps98;go_wp2;go_ret;exact⟨ZP (a:=Z) (XV OA).symm,rfl⟩
 .go_enter fk Tryz.func98,Tryz.ntmps98;go_wp2;go_ret;exact⟨ZP (a:=Z) (XV OA).symm,rfl⟩
def lq(s:ByteArray)(w:NL)(K:s.size<=maxLen):NW gp 53 #[.string s] w (OJ (.bool (Xm s)) w):=by
 unfold maxLen at K;by_cases t:1<=s.size/\s.size<=12
 .have Dv:0<s.size:=OA
  have h:Xm s=(WY (s[0].toNat:Int)&& !s.data.toList.any ZM):=by
   rw[Xm,BN s Dv,VB t,TS]
  rw[h];clear h;have P:(0:Int)<=(s[0].toNat:Int):=OA
  have T:(s[0].toNat:Int)<256:=by have:=s[0].toNat_lt;omega
  have A:(1:Int)<=(s.size:Int):=OA
  have z:(s.size:Int)<=12:=OA
  clear t;have j:=λw=>N7 (s.size:Int) 1 12 w
  rw[VB (show(1:Int)<=s.size/\(s.size:Int)<=12 from⟨A,z⟩)]at j;have e:=λw=>AI s[0] w
  cases hl:WY (s[0].toNat:Int)with
  |false=>
   rw[hl]at e;clear hl A z;go_enter fk Tryz.func53,Tryz.ntmps53
   go_wp2_with (first|go_at_call 52;(with_reducible refine(j _).q ?_)|go_at_call 97;(with_reducible refine(e _).q ?_))
   go_ret;exact⟨rfl,rfl⟩
  |true=>
   rw[hl]at e;rw[TS];clear hl;have H:Hid ((s.data.toList.drop 0).any ZM=s.data.toList.any ZM):=rfl;go_enter fk Tryz.func53,Tryz.ntmps53
   go_wp2_with (first|go_at_call 52;(with_reducible refine(j _).q ?_)|go_at_call 97;(with_reducible refine(e _).q ?_))
   go_loopw [3] (λv wr=>∃i:Nat,i<=s.size/\v= NE NF i/\wr=w/\Hid ((s.data.toList.drop i).any ZM=s.data.toList.any ZM)) (λv _=>s.size - (intOf v).toNat)
   case atStart=>exact⟨0,XL _,rfl,rfl,H⟩
   case round=>
    obtain⟨i,hi,rfl,rfl,p⟩:=hrel;clear H e j;by_cases M:i=s.size
    .have x:s.data.toList.any ZM=Z:=by
      rw[<-p.out,TR (by rw[RH];exact SH M.symm)];rfl
     clear p;have V:(i:Int)=(s.size:Int):=OA;go_wp2;go_ret;exact⟨ZP (a:=NC) (by rw[x];rfl),rfl⟩
    .have A5:i<s.size:=OA;have L:s.data.toList[i]? =U s[i]:=(by rw[Array.getElem?_toList];exact YN A5);have g:Hid (s.data.toList.any ZM=(ZM s[i]||(s.data.toList.drop (i+1)).any ZM)):=(by show _=_;rw[<-p.out,WP L,List.any_cons]);clear p;have e:=λw=>AI s[i] w
     have o:=λw=>BR s[i] w
     have O:(0:Int)<=(i:Int):=OA;have F:(i:Int)<(s.size:Int):=OA;have d:∀{v:Nat->Nat},ZM s[i]=Z->Hid ((s.data.toList.drop (i+1)).any ZM=s.data.toList.any ZM):=λE=>by show _=_;rw[g.out,E,TU]
     have f:ZM s[i]=(!WY (s[i].toNat:Int)&& !S0 (s[i].toNat:Int)):=rfl;cases h1:WY (s[i].toNat:Int)with
     |true=>
      rw[h1]at e f;have u:=d (v:=id) f;clear h1 d f g
      go_wp2_with (first|go_at_call 97;(with_reducible refine(e _).q ?_))
      exact⟨⟨i+1,OA,by push_cast;rfl,trivial,u⟩,by simp[intOf];omega⟩
     |false=>
      rw[h1]at e f;cases h2:S0 (s[i].toNat:Int)with
      |true=>
       rw[h2]at o f;have u:=d (v:=id) f;clear h1 h2 d f g
       go_wp2_with (first|go_at_call 97;(with_reducible refine(e _).q ?_)|go_at_call 98;(with_reducible refine(o _).q ?_))
       exact⟨⟨i+1,OA,by push_cast;rfl,trivial,u⟩,by simp[intOf];omega⟩
      |false=>
       rw[h2]at o f;have x:s.data.toList.any ZM=NC:=(by rw[g.out,f];rfl);clear h1 h2 d f g
       go_wp2_with (first|go_at_call 97;(with_reducible refine(e _).q ?_)|go_at_call 98;(with_reducible refine(o _).q ?_))
       go_ret;exact⟨ZP (a:=Z) (by rw[x];rfl),rfl⟩
 .have h:Xm s=Z:=by rw[Xm,XV t];rfl
  rw[h];have y:decide (1<=(s.size:Int)/\(s.size:Int)<=12)=Z:=XV OA;have C:=λw=>N7 (s.size:Int) 1 12 w
  rw[y]at C;clear h y;go_enter fk Tryz.func53,Tryz.ntmps53
  go_wp2_with (first|go_at_call 52;refine(C _).q ?_)
  go_ret;exact⟨rfl,rfl⟩
def gm{x y:Sf}(h:nmL x=nmL y):x.nm=y.nm:=by
 have d:x.nm.data=y.nm.data:=Array.toList_inj.1 h;cases hx:x.nm;cases hy:y.nm;rw[hx,hy]at d;simp at d;rw[d]
def nS{t:ByteArray}(h:s.toList=t.toList):s=t:=by
 rw[ByteArray.toList_eq,ByteArray.toList_eq]at h;cases s;cases t;simp at h;rw[h]
def aB(a b c m:Int)(A:Option NP)(n a2:Nat)(L:List Sf)(w:NL)(A1:L.length=n)(Vs:n<=1000000)(hS:RawA w A L):
 NW gp 17 #[NJ #[a,b,c,m,J A n a2]] w (OI (NE NF (Zp a b c m L)) w):=by
 have X:∀n hi w,NW gp 52 #[NE NF n,NE NF 0,NE NF hi] w (OJ (.bool (okA n hi)) w):=λn hi w=>N7 n 0 hi w
 have O:=λw=>X a 9999 w;have P:=λw=>X b 9999 w;have M:=λw=>X c 9999 w;have In:=λw=>N7 m 2 4 w
 clear X;by_cases C:W4 a b c m=0
 .have E:okA a 9999=NC/\okA b 9999=NC/\okA c 9999=NC/\decide (2<=m/\m<=4)=NC:=by
   unfold W4 at C;split at C
   .rename_i h;simp only[YG]at h;exact⟨h.1.1.1,h.1.1.2,h.1.2,h.2⟩
   .cases C
  simp only[E.1]at O;simp only[E.2.1]at P;simp only[E.2.2.1]at M;simp only[E.2.2.2]at In;have T:Hid (Zp a b c m L=Zj L):=by
   show _=_;rw[Zp,firstV,YZ C];simp only[firstV];split
   .rename_i h;exact h.symm
   .rfl
  clear C E;by_cases h9:9<L.length
  .have H:Hid (Zp a b c m L=2):=by show _=_;rw[T.out,Zj,YZ h9]
   have Q3:(9:Int)<(n:Int):=OA
   clear h9 T;go_enter fk Tryz.func17,Tryz.ntmps17
   go_wp2_with (first|go_at_call 52;(with_reducible refine(O _).q ?_)|go_at_call 52;(with_reducible refine(P _).q ?_)|go_at_call 52;(with_reducible refine(M _).q ?_)|go_at_call 52;(with_reducible refine(In _).q ?_))
   go_ret;exact⟨ZK (a:=2) H.out.symm,((Ext.rfl' w).alloc _).alloc _⟩
  .have H:Hid (Zp a b c m L=shA ((L.take 0).map nmL) (L.drop 0)):=by show _=_;rw[T.out,Zj,XB h9];rfl
   have Q3:(n:Int)<=9:=OA
   clear h9 T;go_enter fk Tryz.func17,Tryz.ntmps17
   go_wp2_with (first|go_at_call 52;(with_reducible refine(O _).q ?_)|go_at_call 52;(with_reducible refine(P _).q ?_)|go_at_call 52;(with_reducible refine(M _).q ?_)|go_at_call 52;(with_reducible refine(In _).q ?_))
   clear O P M In;have Br:=((Ext.rfl' w).alloc (I #[a,b,c,m,J A n a2] 26)).alloc (I #[a,b,c,m] 23);go_loopw [4] (λv wr=>∃i:Nat,i<=n/\v= NE NF i/\wr.heap[w.heap.size]? =U (I #[a,b,c,m,J A n a2] 26)/\Ext w wr/\Hid (Zp a b c m L=shA ((L.take i).map nmL) (L.drop i))) (λv _=>n - (intOf v).toNat)
   case atStart=>exact⟨0,XL _,rfl,by simp only[Z3,Z2];rw[XB OA,YZ trivial],Br,H⟩
   case round=>
    obtain⟨i,hi,rfl,X,hE,hH⟩:=hrel;clear Br H;have q4:=Z0 X 4;simp only[YC,YA,YB]at q4;have b4:=Z5 X;by_cases Ao:i=n
    .subst Ao;have hz:Hid (Zp a b c m L=0):=(by show _=_;rw[hH.out,<-A1,UW];rfl);clear hH;go_wp2;go_ret;exact⟨ZK (a:=0) hz.out.symm,hE⟩
    .have A5:i<n:=OA;obtain⟨x,hx⟩:∃x,L[i]? =U x:=⟨_,YH OA⟩;have Al:Hid (Zp a b c m L=if Xm x.nm=Z then 4 else if nmL x∈(L.take i).map nmL then 5 else if WO x=Z then 1 else shA ((L.take (i+1)).map nmL) (L.drop (i+1))):=by
      show _=_;rw[hH.out,WP hx,shA,T4 hx,QL];rfl
     have Gc:=hS.ext hE;obtain⟨b',a9,rfl,_,⟨k0,k1,k2,k3,k4,k5,k6⟩,Jh⟩:=Gc i x hx;have Hj:=λw=>lq x.nm w Jh
     have D8:(0:Int)<=(i:Int):=OA;cases hnb:Xm x.nm
     .have K:Hid (Zp a b c m L=4):=(by show _=_;rw[Al.out,YZ hnb]);rw[hnb]at Hj;clear hnb Al hH hx
      go_wp2_with (first|go_at_call 53;refine(Hj _).q ?_)
      go_ret;exact⟨ZK (a:=4) K.out.symm,hE.alloc _⟩
     .rw[hnb]at Hj;have E1:Hid (Zp a b c m L=if nmL x∈(L.take i).map nmL then 5 else if WO x=Z then 1 else shA ((L.take (i+1)).map nmL) (L.drop (i+1))):=(by show _=_;rw[Al.out,XB (by rw[hnb];simp)]);clear Al hH hnb
      go_wp2_with (first|go_at_call 53;refine(Hj _).r λF Da=> ?_;subst Da)
      have As:=hE.alloc (I #[.string x.nm,x.a0,x.a1,x.b0,x.b1,x.c0,x.c1] 51);have S9:(wr.alloc (I #[.string x.nm,x.a0,x.a1,x.b0,x.b1,x.c0,x.c1] 51)).heap[wr.heap.size]? =U (I #[.string x.nm,x.a0,x.a1,x.b0,x.b1,x.c0,x.c1] 51):=(by rw[Z3,YZ rfl]);have Sr:=((Ext.rfl' wr).alloc (I #[.string x.nm,x.a0,x.a1,x.b0,x.b1,x.c0,x.c1] 51)).get X;have HN:Hid (nmL x∈(L.take i).map nmL↔nmL x∈((L.take i).drop 0).map nmL):=UZ;clear Hj k0 k1 k2 k3 k4 k5 k6 X q4;have Qt:=Gc.ext ((Ext.rfl' wr).alloc (I #[.string x.nm,x.a0,x.a1,x.b0,x.b1,x.c0,x.c1] 51));generalize World.alloc wr _=V at Qt As S9 Sr⊢;obtain⟨wo,rfl⟩:∃wo:NL,wo=wr:=⟨_,rfl⟩;go_loopw [6] (λv wi=>∃k:Nat,k<=i/\v= NE NF k/\Ext V wi/\Hid (nmL x∈(L.take i).map nmL↔nmL x∈((L.take i).drop k).map nmL)) (λv _=>i - (intOf v).toNat)
      case atStart=>exact⟨0,XL _,rfl,Ext.rfl' V,HN⟩
      case round=>
       obtain⟨k,_,rfl,Nz,Ss⟩:=hrel;clear HN;have a3:=Nz.get Sr;have P8:=Nz.get S9;have q4:=Z0 a3 4;simp only[YC,YA,YB]at q4;by_cases Hb:k=i
       .subst Hb;have Nn:¬nmL x∈(L.take k).map nmL:=(by rw[Ss.out,TR (by rw[VN];omega)];simp);have I1:Hid (Zp a b c m L=if WO x=Z then 1 else shA ((L.take (k+1)).map nmL) (L.drop (k+1))):=(by show _=_;rw[E1.out,XB Nn]);have g:=Z0 P8 1;have t:=Z0 P8 2;have f:=Z0 P8 3;have p:=Z0 P8 4;have j:=Z0 P8 5;have o:=Z0 P8 6;simp only[YC,YA,YB]at g t f p j o;have Is:∀w,NW gp 54 #[NJ #[x.a0,x.a1],NE NF 0,NE NF 9999] w (OI (.bool (ZF (spA x 0))) w):=λw=>IV x.a0 x.a1 0 9999 w
        have G6:∀w,NW gp 54 #[NJ #[x.b0,x.b1],NE NF 0,NE NF 9999] w (OI (.bool (ZF (spA x 1))) w):=λw=>IV x.b0 x.b1 0 9999 w
        have Ka:∀w,NW gp 54 #[NJ #[x.c0,x.c1],NE NF 0,NE NF 9999] w (OI (.bool (ZF (spA x 2))) w):=λw=>IV x.c0 x.c1 0 9999 w
        have Y:WO x=(ZF (spA x 0)&&ZF (spA x 1)&&ZF (spA x 2)):=rfl;have u:=As.trans Nz;have d:=P8;have z:=a3;clear E1 Ss Nn hx S9 Nz;cases h1:ZF (spA x 0)with
        |false=>
         simp only[h1]at Is;have K:Hid (Zp a b c m L=1):=(by show _=_;rw[I1.out,YZ (by rw[Y,h1];simp)]);clear I1 Y
         go_wp2_with (first|(go_at_call 54;(with_reducible refine(Is _).r λF e=> ?_);replace u:=u.trans e;replace d:=e.get d;replace z:=e.get z;clear e g t f p j o;have g:=Z0 d 1;have t:=Z0 d 2;have f:=Z0 d 3;have p:=Z0 d 4;have j:=Z0 d 5;have o:=Z0 d 6;simp only[YC,YA,YB]at g t f p j o)|(go_at_call 54;(with_reducible refine(G6 _).r λF e=> ?_);replace u:=u.trans e;replace d:=e.get d;replace z:=e.get z;clear e g t f p j o;have g:=Z0 d 1;have t:=Z0 d 2;have f:=Z0 d 3;have p:=Z0 d 4;have j:=Z0 d 5;have o:=Z0 d 6;simp only[YC,YA,YB]at g t f p j o)|(go_at_call 54;(with_reducible refine(Ka _).r λF e=> ?_);replace u:=u.trans e;replace d:=e.get d;replace z:=e.get z;clear e g t f p j o;have g:=Z0 d 1;have t:=Z0 d 2;have f:=Z0 d 3;have p:=Z0 d 4;have j:=Z0 d 5;have o:=Z0 d 6;simp only[YC,YA,YB]at g t f p j o))
         go_ret;exact⟨ZK (a:=1) K.out.symm,u⟩
        |true=>
         simp only[h1]at Is;cases h2:ZF (spA x 1)with
         |false=>
          simp only[h2]at G6;have K:Hid (Zp a b c m L=1):=(by show _=_;rw[I1.out,YZ (by rw[Y,h1,h2];simp)]);clear I1 Y
          go_wp2_with (first|(go_at_call 54;(with_reducible refine(Is _).r λF e=> ?_);replace u:=u.trans e;replace d:=e.get d;replace z:=e.get z;clear e g t f p j o;have g:=Z0 d 1;have t:=Z0 d 2;have f:=Z0 d 3;have p:=Z0 d 4;have j:=Z0 d 5;have o:=Z0 d 6;simp only[YC,YA,YB]at g t f p j o)|(go_at_call 54;(with_reducible refine(G6 _).r λF e=> ?_);replace u:=u.trans e;replace d:=e.get d;replace z:=e.get z;clear e g t f p j o;have g:=Z0 d 1;have t:=Z0 d 2;have f:=Z0 d 3;have p:=Z0 d 4;have j:=Z0 d 5;have o:=Z0 d 6;simp only[YC,YA,YB]at g t f p j o)|(go_at_call 54;(with_reducible refine(Ka _).r λF e=> ?_);replace u:=u.trans e;replace d:=e.get d;replace z:=e.get z;clear e g t f p j o;have g:=Z0 d 1;have t:=Z0 d 2;have f:=Z0 d 3;have p:=Z0 d 4;have j:=Z0 d 5;have o:=Z0 d 6;simp only[YC,YA,YB]at g t f p j o))
          go_ret;exact⟨ZK (a:=1) K.out.symm,u⟩
         |true=>
          simp only[h2]at G6;cases h3:ZF (spA x 2)with
          |false=>
           simp only[h3]at Ka;have K:Hid (Zp a b c m L=1):=(by show _=_;rw[I1.out,YZ (by rw[Y,h1,h2,h3];simp)]);clear I1 Y
           go_wp2_with (first|(go_at_call 54;(with_reducible refine(Is _).r λF e=> ?_);replace u:=u.trans e;replace d:=e.get d;replace z:=e.get z;clear e g t f p j o;have g:=Z0 d 1;have t:=Z0 d 2;have f:=Z0 d 3;have p:=Z0 d 4;have j:=Z0 d 5;have o:=Z0 d 6;simp only[YC,YA,YB]at g t f p j o)|(go_at_call 54;(with_reducible refine(G6 _).r λF e=> ?_);replace u:=u.trans e;replace d:=e.get d;replace z:=e.get z;clear e g t f p j o;have g:=Z0 d 1;have t:=Z0 d 2;have f:=Z0 d 3;have p:=Z0 d 4;have j:=Z0 d 5;have o:=Z0 d 6;simp only[YC,YA,YB]at g t f p j o)|(go_at_call 54;(with_reducible refine(Ka _).r λF e=> ?_);replace u:=u.trans e;replace d:=e.get d;replace z:=e.get z;clear e g t f p j o;have g:=Z0 d 1;have t:=Z0 d 2;have f:=Z0 d 3;have p:=Z0 d 4;have j:=Z0 d 5;have o:=Z0 d 6;simp only[YC,YA,YB]at g t f p j o))
           go_ret;exact⟨ZK (a:=1) K.out.symm,u⟩
          |true=>
           simp only[h3]at Ka;have K:Hid (Zp a b c m L=shA ((L.take (k+1)).map nmL) (L.drop (k+1))):=(by show _=_;rw[I1.out,XB (by rw[Y,h1,h2,h3];simp)]);clear I1 Y
           go_wp2_with (first|(go_at_call 54;(with_reducible refine(Is _).r λF e=> ?_);replace u:=u.trans e;replace d:=e.get d;replace z:=e.get z;clear e g t f p j o;have g:=Z0 d 1;have t:=Z0 d 2;have f:=Z0 d 3;have p:=Z0 d 4;have j:=Z0 d 5;have o:=Z0 d 6;simp only[YC,YA,YB]at g t f p j o)|(go_at_call 54;(with_reducible refine(G6 _).r λF e=> ?_);replace u:=u.trans e;replace d:=e.get d;replace z:=e.get z;clear e g t f p j o;have g:=Z0 d 1;have t:=Z0 d 2;have f:=Z0 d 3;have p:=Z0 d 4;have j:=Z0 d 5;have o:=Z0 d 6;simp only[YC,YA,YB]at g t f p j o)|(go_at_call 54;(with_reducible refine(Ka _).r λF e=> ?_);replace u:=u.trans e;replace d:=e.get d;replace z:=e.get z;clear e g t f p j o;have g:=Z0 d 1;have t:=Z0 d 2;have f:=Z0 d 3;have p:=Z0 d 4;have j:=Z0 d 5;have o:=Z0 d 6;simp only[YC,YA,YB]at g t f p j o))
           exact⟨⟨k+1,OA,by push_cast;rfl,z,u,K⟩,by simp[intOf];omega⟩
       .have hklt:k<i:=OA;obtain⟨y,hy⟩:∃y,L[k]? =U y:=⟨_,YH OA⟩;obtain⟨b2,a4,G7,_,a5,_⟩:=(Qt.ext Nz) k y hy;obtain⟨rfl,rfl⟩:b'=b2/\a9=a4:=(by simpa using G7);have C0:=a5.1;have C4:=Z0 P8 0;simp only[YC,YA]at C4;have Dn:¬n<=k:=OA;have H2:nmL x∈((L.take i).drop k).map nmL↔nmL x=nmL y\/nmL x∈((L.take i).drop (k+1)).map nmL:=by
         have a7:(L.take i)[k]? =U y:=(by rw[List.getElem?_take,YZ hklt];exact hy);rw[WP a7,VG,XG]
        go_wp2_with fail
        have a8:=ZQ q4;have b3:=ZQ C0;have a6:=ZQ C4;refine Z9 9 OB ?_;refine ZS [0,1,2,3,4,5,6,7,8] OB OB ?_;simp only[ZR,YB,YA,YK,YJ]
        repeat (go_big_quiet_step (fail))
        refine XI ?_;refine Yt OB (λW hW=> ?_);have Bj:=hW;clear a8 b3 a6;have Vt:=Nz.trans Bj;by_cases Cy:nmL x=nmL y
        .have he:(y.nm.toList==x.nm.toList)=NC:=(by simp[gm Cy]);have K:Hid (Zp a b c m L=5):=(by show _=_;rw[E1.out,YZ (Ss.out.2 (H2.2 (.inl Cy)))]);rw[he];clear he E1 Ss H2;go_wp2;go_ret;exact⟨ZK (a:=5) K.out.symm,As.trans Vt⟩
        .have he:(y.nm.toList==x.nm.toList)=Z:=by
          rw[XQ];intro h;exact Cy (by rw[nmL,nmL,(nS h).symm])
         have S3:Hid (nmL x∈(L.take i).map nmL↔nmL x∈((L.take i).drop (k+1)).map nmL):=(by show _↔_;rw[Ss.out,H2];simp[Cy]);rw[he];clear he Ss H2;go_wp2;go_roundw
         case rel=>exact⟨k+1,OA,by push_cast;rfl,Vt,S3⟩
         case measure=>simp[intOf];omega
 .have E4:W4 a b c m=1:=by
   unfold W4 at C⊢;split at C
   .exact absurd rfl C
   .rw[XB (by assumption)]
  have T:Hid (Zp a b c m L=1):=by show _=_;rw[Zp,firstV,XB C,E4]
  have E:(okA a 9999&&okA b 9999&&okA c 9999&&decide (2<=m/\m<=4))=Z:=by
   unfold W4 at C;split at C
   .exact absurd rfl C
   .rename_i h;simpa using h
  clear C E4;cases h1:okA a 9999 with
  |false=>
   simp only[h1]at O;clear E h1;go_enter fk Tryz.func17,Tryz.ntmps17
   go_wp2_with (first|go_at_call 52;(with_reducible refine(O _).q ?_)|go_at_call 52;(with_reducible refine(P _).q ?_)|go_at_call 52;(with_reducible refine(M _).q ?_)|go_at_call 52;(with_reducible refine(In _).q ?_))
   go_ret;exact⟨ZK (a:=1) T.out.symm,((Ext.rfl' w).alloc _).alloc _⟩
  |true=>
   simp only[h1]at O;cases h2:okA b 9999 with
   |false=>
    simp only[h2]at P;clear E h1 h2;go_enter fk Tryz.func17,Tryz.ntmps17
    go_wp2_with (first|go_at_call 52;(with_reducible refine(O _).q ?_)|go_at_call 52;(with_reducible refine(P _).q ?_)|go_at_call 52;(with_reducible refine(M _).q ?_)|go_at_call 52;(with_reducible refine(In _).q ?_))
    go_ret;exact⟨ZK (a:=1) T.out.symm,((Ext.rfl' w).alloc _).alloc _⟩
   |true=>
    simp only[h2]at P;cases h3:okA c 9999 with
    |false=>
     simp only[h3]at M;clear E h1 h2 h3;go_enter fk Tryz.func17,Tryz.ntmps17
     go_wp2_with (first|go_at_call 52;(with_reducible refine(O _).q ?_)|go_at_call 52;(with_reducible refine(P _).q ?_)|go_at_call 52;(with_reducible refine(M _).q ?_)|go_at_call 52;(with_reducible refine(In _).q ?_))
     go_ret;exact⟨ZK (a:=1) T.out.symm,((Ext.rfl' w).alloc _).alloc _⟩
    |true=>
     simp only[h3]at M;have h4:decide (2<=m/\m<=4)=Z:=(by rw[h1,h2,h3]at E;simpa using E);simp only[h4]at In;clear E h1 h2 h3 h4;go_enter fk Tryz.func17,Tryz.ntmps17
     go_wp2_with (first|go_at_call 52;(with_reducible refine(O _).q ?_)|go_at_call 52;(with_reducible refine(P _).q ?_)|go_at_call 52;(with_reducible refine(M _).q ?_)|go_at_call 52;(with_reducible refine(In _).q ?_))
     go_ret;exact⟨ZK (a:=1) T.out.symm,((Ext.rfl' w).alloc _).alloc _⟩
end
end Go.Proofs.Tryq
namespace Go.Proofs.Tryp
open Go.Shelf Go.Proofs Go.Proofs.Tryq
attribute [local instance] k3
def fF(a b c m:Int)(d:Option NP)(n e:Nat)(L:List Sf)(w:NL)(o:L.length=n)(g:Meas w)(f:RawA w d L)(i:Zp a b c m L≠0):
 NW Tryp.prog 7 #[NJ #[a,b,c,m,J d n e]] w (OI (.tuple #[str [],NE NF (Zp a b c m L)]) w):=by
 have h:Ext w (w.alloc (I #[a,b,c,m,J d n e] 26)):=(Ext.rfl' w).alloc _;have j:=λw g f=>IZ a b c m d n e L w o g f
 have t:=g.ext h;have p:=f.ext h;generalize Zp a b c m L=r at i j⊢;have u:(r !=0)=NC:=by simpa using i
 clear f g;go_enter fq Tryz.func7,Tryz.ntmps7;go_wp2_with (go_at_call 36;refine(j _ t p).r λ_ j=> ?_;have p:=h.trans j)
 all_goals
  go_ret2;exact⟨rfl,p⟩
def mq(i h f g:Int)(d:Option NP)(n e:Nat)(S:List Rs)(w:NL)(u:S.length=n)(j:RawS w d S)(t:ZC i h f g S≠0):
 NW Tryp.prog 9 #[.agg (Zh i h f g d n e)] w (OI (.tuple #[str [],NE NF (ZC i h f g S)]) w):=by
 have o:=λw j=>P8 i h f g d n e S w u j
 simp only[Zh]at o⊢;have p:Ext w (w.alloc (I #[i,h,f,g,J d n e] 31)):=(Ext.rfl' w).alloc _;have x:=j.ext p;generalize ZC i h f g S=r at t o⊢;have y:(r !=0)=NC:=by simpa using t
 clear j;go_enter fq Tryz.func9,Tryz.ntmps9;go_wp2_with (go_at_call 43;refine(o _ x).r λ_ o=> ?_;have x:=p.trans o)
 all_goals
  go_ret2;exact⟨rfl,x⟩
def IR{t:Nat}(T:List (List UInt8))(h:W.heap[B]? =U (.cells (T.map str).toArray t)):CT W B 0 T:=λj x d=>by
 rw[Z0 h,VD];simp[d]
def func8:Tryp.prog.funcs[8]? =U Tryz.f8:=ZV OB OB
abbrev ntmps8:=Tryz.ntmps8
@[simp] def call8 (d:Array NM) (w:NL):(callFunc 8 d).run Tryp.prog w= .ok (.enter 8 d) w:=Z7 func8 OB OB d w
def BF{a b c:Int}(e:okP a)(f:okP b)(g:okP c)(d:okP m):∀y∈ZX a b c m,y.length<=1000:=by
 intro x h;simp only[ZX,VG,VX,XG,XO,UE]at h;rcases h with rfl|rfl|rfl|rfl<;>exact XC (VV _ (by first|exact e.s.1|exact f.s.1|exact g.s.1|exact d.s.1) (by first|exact e.s.2|exact f.s.2|exact g.s.2|exact d.s.2)) OA
def dR{x:Sf}(h:okX x):∀y∈Qw x,y.length<=1000:=by
 intro z d;simp only[Qw,XG,XO,UE]at d;rcases d with rfl|rfl|rfl|rfl
 .exact XC h.sz OA
 .exact XC (PQ _ _ h.a0.s h.a1.s) OA
 .exact XC (PQ _ _ h.b0.s h.b1.s) OA
 .exact XC (PQ _ _ h.c0.s h.c1.s) OA
def fx(a b c m:Int)(d:Option NP)(n j:Nat)(L:List Sf)(w:NL)(P:L.length=n)(hn:n<=20)(M:RawA w d L):
 NW Tryp.prog 8 #[NJ #[a,b,c,m,J d n j]] w (OI (.tuple #[str (if Zp a b c m L=0 then GP a b c m L else[]),NE NF (Zp a b c m L)]) w):=by
 have hg:(w.alloc (I #[a,b,c,m,J d n j] 26)).heap[w.heap.size]? =U (I #[a,b,c,m,J d n j] 26):=by rw[Z3,YZ rfl]
 have hE:Ext w (w.alloc (I #[a,b,c,m,J d n j] 26)):=(Ext.rfl' w).alloc _;have Bi:=M.ext hE;have V:=λw M=>aB a b c m d n j L w P OA M
 replace M:Hid (RawA w d L):=M;replace P:Hid (L.length=n):=P;by_cases K:Zp a b c m L=0
 .rw[K]at V⊢;rw[YZ rfl];obtain⟨ha,hb,hc,hm,_,hX⟩:=EA K;have Fi:Hid (∀y∈ZX a b c m,y.length<=1000):=BF ha hb hc hm;replace hX:Hid _:=hX;clear K;go_enter func8,ntmps8
  go_wp2_with (first
   |(go_at_call 17;refine(V _ Bi).r λO Y=> ?_
     have Ad:=hE.trans Y;have H:=Y.get hg;have q0:=Z0 H 0;have q1:=Z0 H 1;have q2:=Z0 H 2;have q3:=Z0 H 3;simp only[YC,YA,YB]at q0 q1 q2 q3))
  have Ag:=Ad.alloc (I #[a,b,c,m] 23);have E:(O.alloc (I #[a,b,c,m] 23)).heap[O.heap.size]? =U (I #[a,b,c,m] 23):=by rw[Z3,YZ rfl]
  have Bu:=((Ext.rfl' O).alloc (I #[a,b,c,m] 23)).get H;generalize O.alloc (I #[a,b,c,m] 23)=w3 at Ag E Bu⊢;generalize O.heap.size=B3 at E⊢;have r0:=ZQ (Z0 E 0);have r1:=ZQ (Z0 E 1);have r2:=ZQ (Z0 E 2);have r3:=ZQ (Z0 E 3);refine Z9 15 OB ?_;refine ZS [0,1,3,4,6,7,9,10] OB OB ?_;simp only[ZR,YB,YA,YK,YJ]
  repeat (go_big_quiet_step (fail))
  refine XI ?_;refine Z4 2 (f:=41) (args:= #[a]) (v:=str (Lib.itoa a)) OB rfl OB rfl (λW=>by simp[go_sem,NU,Act.eval]) (λW _=>Vr a ha W) ?_;go_simp;refine Z4 5 (f:=41) (args:= #[b]) (v:=str (Lib.itoa b)) OB rfl OB rfl (λW=>by simp[go_sem,NU,Act.eval]) (λW _=>Vr b hb W) ?_;go_simp;refine Z4 8 (f:=41) (args:= #[c]) (v:=str (Lib.itoa c)) OB rfl OB rfl (λW=>by simp[go_sem,NU,Act.eval]) (λW _=>Vr c hc W) ?_;go_simp;refine Z4 11 (f:=41) (args:= #[m]) (v:=str (Lib.itoa m)) OB rfl OB rfl (λW=>by simp[go_sem,NU,Act.eval]) (λW _=>Vr m hm W) ?_;go_simp;refine Yu 12 rfl OB rfl (λW e=>Ye ⟨J (U W.heap.size) 4 4,W.alloc (I #[str (Lib.itoa a),str (Lib.itoa b),str (Lib.itoa c),str (Lib.itoa m)] 9),OE,(Ext.rfl' W).alloc _,?_⟩);have g:=e.trans ((Ext.rfl' W).alloc (I #[str (Lib.itoa a),str (Lib.itoa b),str (Lib.itoa c),str (Lib.itoa m)] 9));have u:(W.alloc (I #[str (Lib.itoa a),str (Lib.itoa b),str (Lib.itoa c),str (Lib.itoa m)] 9)).heap[W.heap.size]? =U (I #[str (Lib.itoa a),str (Lib.itoa b),str (Lib.itoa c),str (Lib.itoa m)] 9):=by rw[Z3,YZ rfl]
  generalize W.alloc (I #[str (Lib.itoa a),str (Lib.itoa b),str (Lib.itoa c),str (Lib.itoa m)] 9)=W5 at g u⊢;generalize W.heap.size=p at u⊢;clear e;go_simp;refine Yu 13 rfl OB rfl (λW e=>Yd (f:=40) (args:= #[str [114,117,108,101],J (U p) 4 4]) OE ?_);refine(JE [114,117,108,101] p 0 4 4 (ZX a b c m) W rfl OA (IR (ZX a b c m) (e.get u)) OC Fi.out).q ?_;refine⟨str (ZY [114,117,108,101] (ZX a b c m)),rfl,Ext.rfl' _,?_⟩;replace g:=g.trans e;clear e u;go_simp;refine ZS [14] OB OB ?_;simp only[ZR,YB,YA,YK,YJ]
  repeat (go_big_quiet_step (fail))
  refine XI ?_;refine Yt OB (λW e=> ?_);replace g:=g.trans e;have As:=Ag.trans g;have Ca:=g.get Bu;have q4:=Z0 Ca 4;simp only[YC,YA,YB]at q4;clear e g hg H E Bu r0 r1 r2 r3 q0 q1 q2 q3 Bi hE Y Ad Ag V ha hb hc hm;replace Ca:Hid _:=Ca;go_wp2;go_loopw [6,7] (λv6 v7 wr=>∃i:Nat,i<=n/\v7= NE NF i/\v6=str (ZY [114,117,108,101] (ZX a b c m)++((L.take i).map Y9).flatten)/\Ext w wr/\wr.cell? ⟨w.heap.size,4,NB⟩=U (J d n j)) (λ_ v7 _=>n - (intOf v7).toNat)
  case atStart=>exact⟨0,OA,rfl,OD,As,q4⟩
  case round=>
   obtain⟨i,hi,rfl,rfl,Bp,q4⟩:=hrel;by_cases Ao:i=n
   .subst Ao;go_wp2;go_ret2;rw[XX (by have:=P.out;omega)];exact⟨rfl,Bp⟩
   .have A5:(i:Int)<(n:Int):=OA;obtain⟨x,T⟩:∃x,L[i]? =U x:=⟨_,YH (by have:=P.out;omega)⟩;obtain⟨_,_,rfl,_,o,_⟩:=(M.out.ext Bp) i x T;have x0:=o.1;have x1:=o.2;have x2:=o.3;have x3:=o.4;have x4:=o.5;have x5:=o.6;have x6:=o.7;have C:=hX.out x (YQ T);clear o;go_wp2;have Cw:=Bp.alloc (I #[.string x.nm,x.a0,x.a1,x.b0,x.b1,x.c0,x.c1] 51);have A:(wr.alloc (I #[.string x.nm,x.a0,x.a1,x.b0,x.b1,x.c0,x.c1] 51)).heap[wr.heap.size]? =U (I #[.string x.nm,x.a0,x.a1,x.b0,x.b1,x.c0,x.c1] 51):=(by rw[Z3,YZ rfl]);have p4:=((Ext.rfl' wr).alloc (I #[.string x.nm,x.a0,x.a1,x.b0,x.b1,x.c0,x.c1] 51)).cellS q4;have e0:str x.nm.data.toList= .string x.nm:=by simp[str]
    have Vu:∀(W:NL)(p:Nat),W.heap[p]? =U (I #[.string x.nm,str (ZW x.a0 x.a1),str (ZW x.b0 x.b1),str (ZW x.c0 x.c1)] 9)->NW Tryp.prog 40 #[str [115,104,97,102,116],J (U ⟨p,0,NB⟩) 4 4] W (OJ (str (Y9 x)) W):=λW p h=>
     JE [115,104,97,102,116] p 0 4 4 (Qw x) W rfl OA (IR (t:=9) (Qw x) (by rw[Qw,VG,e0];exact h)) OC (dR C)
    have Ba:¬9223372036854775807<(ZY [114,117,108,101] (ZX a b c m)++((L.take i).map Y9).flatten).length+(Y9 x).length:=by
     have h1:=Pt 1000 ([114,117,108,101]::ZX a b c m) (λy hy=>by
      rcases XG.1 hy with rfl|hy
      .decide
      .exact Fi.out y hy)
     have h2:∀z∈L,([32].intercalate ([115,104,97,102,116]::Qw z)).length<=5*1001:=λz hz=>Pt 1000 ([115,104,97,102,116]::Qw z) (λy hy=>by
      rcases XG.1 hy with rfl|hy
      .decide
      .exact dR (hX.out z hz) y hy)
     have h3:=LF 10000 ((L.take i).map Y9) (by
      intro y hy;obtain⟨z,hz,rfl⟩:=VW.1 hy;have:=h2 z (QH hz);simp only[Y9,ZY,XH,YP,XW];simp only[Qw]at this;omega)
     have h6:=h2 x (YQ T);rw[TH,VN]at h3;have h4:min i L.length<=20:=OA;have h5:=SG 10000 h4;simp only[ZX,VG,VX,YP,XW]at h1;simp only[Qw]at h6;simp only[ZX,VG,VX,Y9,ZY,XH,YP,XW];omega
    have hH:Hid (L.take (i+1)=L.take i++[x]):=(by show _=_;rw[VL,T];rfl);obtain⟨X,Eg⟩:∃X,Hid (X=ZY [114,117,108,101] (ZX a b c m)++((L.take i).map Y9).flatten):=⟨_,rfl⟩;obtain⟨o,Fe⟩:∃o,Hid (o=Y9 x):=⟨_,rfl⟩;rw[<-Eg.out]at Ba⊢;rw[<-Fe.out]at Ba Vu;generalize World.alloc wr (I #[.string x.nm,x.a0,x.a1,x.b0,x.b1,x.c0,x.c1] 51)=w7 at Cw A p4⊢;generalize wr.heap.size=B7 at A⊢;have y0:=Z0 A 0;have y1:=Z0 A 1;have y2:=Z0 A 2;have y3:=Z0 A 3;have y4:=Z0 A 4;have y5:=Z0 A 5;have y6:=Z0 A 6;simp only[YC,YA,YB]at y0 y1 y2 y3 y4 y5 y6;have a7:=ZQ y0;have a4:=ZQ y1;have a6:=ZQ y2;have a8:=ZQ y3;have a2:=ZQ y4;have a5:=ZQ y5;have a3:=ZQ y6;clear T x0 x1 x2 x3 x4 x5 x6 q4 e0;refine Z9 16 OB ?_;refine ZS [0,1,2,3,4,6,7,9,10] OB OB ?_;simp only[ZR,YB,YA,YK,YJ]
    repeat (go_big_quiet_step (fail))
    refine XI ?_;refine Z4 5 (f:=42) (args:= #[NJ #[x.a0,x.a1]]) (v:=str (ZW x.a0 x.a1)) OB rfl OB rfl (λW=>by simp[go_sem,NU,Act.eval]) (λW _=>JA x.a0 x.a1 C.a0 C.a1 W) ?_;go_simp;refine Z4 8 (f:=42) (args:= #[NJ #[x.b0,x.b1]]) (v:=str (ZW x.b0 x.b1)) OB rfl OB rfl (λW=>by simp[go_sem,NU,Act.eval]) (λW _=>JA x.b0 x.b1 C.b0 C.b1 W) ?_;go_simp;refine Z4 11 (f:=42) (args:= #[NJ #[x.c0,x.c1]]) (v:=str (ZW x.c0 x.c1)) OB rfl OB rfl (λW=>by simp[go_sem,NU,Act.eval]) (λW _=>JA x.c0 x.c1 C.c0 C.c1 W) ?_;go_simp;refine Yu 12 rfl OB rfl (λW e=>Ye ⟨J (U W.heap.size) 4 4,W.alloc (I #[.string x.nm,str (ZW x.a0 x.a1),str (ZW x.b0 x.b1),str (ZW x.c0 x.c1)] 9),OE,(Ext.rfl' W).alloc _,?_⟩);have g:=e.trans ((Ext.rfl' W).alloc (I #[.string x.nm,str (ZW x.a0 x.a1),str (ZW x.b0 x.b1),str (ZW x.c0 x.c1)] 9));have u:(W.alloc (I #[.string x.nm,str (ZW x.a0 x.a1),str (ZW x.b0 x.b1),str (ZW x.c0 x.c1)] 9)).heap[W.heap.size]? =U (I #[.string x.nm,str (ZW x.a0 x.a1),str (ZW x.b0 x.b1),str (ZW x.c0 x.c1)] 9):=by rw[Z3,YZ rfl]
    generalize W.alloc (I #[.string x.nm,str (ZW x.a0 x.a1),str (ZW x.b0 x.b1),str (ZW x.c0 x.c1)] 9)=W5 at g u⊢;generalize W.heap.size=p at u⊢;clear e;go_simp;refine Yu 13 rfl OB rfl (λW e=>Yd (f:=40) (args:= #[str [115,104,97,102,116],J (U p) 4 4]) OE ?_);refine(Vu W p (e.get u)).q ?_;refine⟨str o,rfl,Ext.rfl' _,?_⟩;replace g:=g.trans e;clear e u;go_simp;refine ZS [14,15] OB OB ?_;simp only[ZR,YB,YA,YK,YJ]
    repeat (go_big_quiet_step (fail))
    refine XI ?_;refine Yt OB (λW e=> ?_);have Ds:=Cw.trans (g.trans e);have p5:=(g.trans e).cellS p4;go_wp2;go_roundw
    case rel=>exact⟨i+1,OA,by push_cast;rfl,by rw[VH,Eg.out,Fe.out,hH.out];simp,Ds,p5⟩
    case measure=>simp[intOf];omega
 .obtain⟨F,hF⟩:∃F,Zp a b c m L=F:=⟨_,rfl⟩;rw[hF]at K V⊢;rw[XB K];have Ab:(F !=0)=NC:=by simpa using K
  go_enter func8,ntmps8;go_wp2_with (go_at_call 17;refine(V _ Bi).r λO Y=> ?_;have Ad:=hE.trans Y)
  all_goals
   go_ret2;exact⟨rfl,Ad⟩
end Go.Proofs.Tryp
namespace Go.Proofs.Tryq
def chooseR:List Int->List (List Int)
 |[]=>[[]]
 |x::t=>[]::((chooseR t).map (x::·)++(chooseR t).tail)
def chooseR_head:∀l,chooseR l=[]::(chooseR l).tail
 |[]=>rfl
 |_::_=>rfl
def chooseR_ne:∀(l:List Int)(c:List Int),c∈(chooseR l).tail->c≠[]
 |[],c,h=>by cases h
 |x::t,c,h=>by
  rcases VI.1 (show c∈(chooseR t).map (x::·)++(chooseR t).tail from h)with h|h
  .obtain⟨y,_,rfl⟩:=VW.1 h;simp
  .exact chooseR_ne t c h
def Q4(n:Nat)(d:Nat->Bool)(i:Nat):List Int:=((List.range' i (n - i)).filter λk=> !d k).map fun(k:Nat)=>(k:Int)
def chooseR_mem:∀(s c:List Int),c∈chooseR s->List.Sublist c s
 |[],c,h=>by cases XP.1 h;exact List.Sublist.refl _
 |x::t,c,h=>by
  rcases XG.1 h with rfl|h
  .exact List.nil_sublist _
  .rcases VI.1 h with h|h
   .obtain⟨y,hy,rfl⟩:=VW.1 h;exact(chooseR_mem t y hy).cons_cons x
   .exact(chooseR_mem t c (List.mem_of_mem_tail h)).cons x
def mem_chooseR:∀(s c:List Int),List.Sublist c s->c∈chooseR s
 |[],c,h=>by rw[List.sublist_nil.1 h];simp[chooseR]
 |x::t,c,h=>by
  cases c with
  |nil=>exact YY
  |cons y c=>
   rw[chooseR];refine YW _ (VI.2 ?_);cases h with
   |cons _ h=>
    right
    have:=mem_chooseR t _ h;rw[chooseR_head]at this;rcases XG.1 this with h2|h2
    .cases h2
    .exact h2
   |cons_cons _ h=>exact .inl (VW.2 ⟨c,mem_chooseR t c h,rfl⟩)
end Go.Proofs.Tryq
