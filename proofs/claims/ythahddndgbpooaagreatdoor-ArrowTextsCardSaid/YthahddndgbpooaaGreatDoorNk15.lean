import Derived.Test.YthahddndgbpooaaGreatDoorNk14
import Derived.Laws.Cover3
import Derived.LoopIn
import Derived.LoopNIn
import Derived.OwnWalkIn
import Derived.RangeFuncBound
import Derived.RangeFuncNested
import Derived.TacticsInMore
set_option linter.all false
set_option maxRecDepth 100000
set_option maxHeartbeats 4000000
open Go Go.Nk Go.RowKit
open Option renaming some->I,none->NB
open Go.Value renaming slice->U,pointer->J,int->NE,agg->NJ
open Go.Obj renaming cells->Z
open Go renaming World->NL,Value->NM,Addr->NP,Calls->NW,undef->NQ,TypeId->NT
open Go.IntKind renaming i64->NF
open Go.Ending renaming returned->NK
open Bool renaming true->NC,false->ND
variable {ops:Array Oper}{a b c m p q x y:Int}{l:List Int}{vs vs2 vs3 xs xs' ys:List NM}{B b' base' cap cap1 cap3 cp' fb g g' g3 n n' n₀ ob s s' sb wb:Nat}{out:Nat->Bool}{o:Oper}{P:Program}{e e':NT}{v v' vo vo' vo2:NM}{W W' w w' w2 w3 w4 w5 wr:NL}
namespace Go.Proofs.Tryq
section
attribute [local go_sem] Oper.semAt_some
structure Ap where
 p:Int
 q:Int
 k:Int
 s:Int
def apE(a b c:Int)(L:List Sf)(p q:Int)(k:Nat):List Ap:=match L[p.toNat]?,L[q.toNat]? with
 |some x,I y=>if U1 a b c x y k=1 then[]else[⟨p,q,k,U1 a b c x y k⟩]
 |_,_=>[]
def apP(a b c:Int)(L:List Sf)(p q:Int):List Ap:=apE a b c L p q 0++(apE a b c L p q 1++apE a b c L p q 2)
def apR(a b c:Int)(L:List Sf)(p:Int)(t:List Int):List Ap:=t.flatMap (apP a b c L p)
def apA(a b c:Int)(L:List Sf):List Int->List Ap
 |[]=>[]
 |p::t=>apR a b c L p t++apA a b c L t
def Na(x:Ap):Array NM:= #[NJ #[x.p,x.q,x.k,x.s]]
def Uh(h:Ext w w'):w.grownBy w' NB:=⟨h.os,h.tape,h.output,h.size,λk d _=>h.old k d⟩
def pL{c:Code}{Q:Exit->Act->NL->Prop}{a:Act}(h:c.wpIn Fence.wide n P (Exit.noGoto Q) a w):c.scope.wpIn Fence.wide n P Q a w:=wpIn_wide.2 (wp_scope_straight (wpIn_wide.1 h))
structure BelowX(B sb:Nat)(w w':NL):Prop where
 os:w'.os=w.os
 tape:w'.tape=w.tape
 output:w'.output=w.output
 size:w.heap.size<=w'.heap.size
 block:∀k,k<B->k≠sb->w'.heap[k]? =w.heap[k]?
def BelowX.refl(B sb:Nat)(w:NL):BelowX B sb w w:=⟨rfl,rfl,rfl,XA _,λ_ _ _=>rfl⟩
def BelowX.trans{B sb:Nat}{a b c:NL}(h:BelowX B sb a b)(k:BelowX B sb b c):BelowX B sb a c:=
 ⟨k.os.trans h.os,k.tape.trans h.tape,k.output.trans h.output,XC h.size k.size,λi hi d=>(k.block i hi d).trans (h.block i hi d)⟩
def BelowX.cell{B sb:Nat}{w w':NL}(h:BelowX B sb w w'){p:NP}(f:p.block<B)(d:p.block≠sb):w'.cell? p=w.cell? p:=by simp only[World.cell?,h.block _ f d]
def Oj(h:Ext w w')(d:n₀<=w.heap.size):BelowX n₀ sb w w':=⟨h.os,h.tape,h.output,h.size,λk _ _=>h.old k OA⟩
def jQ(a b c:Int)(L:List Sf){l:List Int}{i:Nat}{p:Int}(h:l[i]? =I p):apA a b c L (l.drop i)=apR a b c L p (l.drop (i+1))++apA a b c L (l.drop (i+1)):=by rw[WP h];rfl
def gi(a b c:Int)(L:List Sf)(p:Int){t:List Int}{j:Nat}{q:Int}(h:t[j]? =I q):apR a b c L p (t.drop j)=apP a b c L p q++apR a b c L p (t.drop (j+1)):=by rw[WP h];rfl
structure Good(a b c:Int)(L:List Sf):Prop where
 ha:0<=a/\a<=9999
 hb:0<=b/\b<=9999
 hc:0<=c/\c<=9999
 ok:∀x∈L,WO x=NC
def Good.ins{L:List Sf}(h:Good a b c L){x:Sf}(d:x∈L):ZF (spA x 0)=NC/\ZF (spA x 1)=NC/\ZF (spA x 2)=NC:=by
 have:=h.ok x d;simp only[WO,YG]at this;exact⟨this.1.1,this.1.2,this.2⟩
def js(a b c m:Int)(d:Option NP)(n cap:Nat)(L:List Sf)(x y:Sf)(i j k:Nat)(V:k<3)(w:NL)(f:Good a b c L)(t:Meas w)(O:RawA w d L)(T:L.length=n)(M:n<=20)
 (K:L[i]? =I x)(A:L[j]? =I y):
 NW prog 104 #[NJ #[a,b,c,m,U d n cap],i,j,k] w (OI (NE NF (U1 a b c x y k)) w):=by
 obtain⟨h,z,e1,F,H,_⟩:=O i x K;obtain⟨_,_,e2,_,u,_⟩:=O j y A;subst e1;simp only[XM,Addr.mk.injEq,and_true]at e2;obtain⟨rfl,rfl⟩:=e2;have hi:=(YI.1 K).1;have X:=(YI.1 A).1;have E:=f.ins (YQ K);have C:=f.ins (YQ A);obtain rfl|rfl|rfl:k=0\/k=1\/k=2:=OA
 .exact ey a b c m h z n cap x y i j w t F OA OA M H u f.ha E.1 C.1
 .exact gO a b c m h z n cap x y i j w t F OA OA M H u f.hb E.2.1 C.2.1
 .exact jj a b c m h z n cap x y i j w t F OA OA M H u f.hc E.2.2 C.2.2
def dO(a b c m:Int)(C:Option NP)(n cap:Nat)(L:List Sf)(bl:Option NP)(u cl:Nat)(l:List Int)(K O n₀ sb:Nat)(yl:Nat)(d Jx:List Ap->NL->Prop)
 (hY:∀pre x W1,d pre W1->(pre++[x])<+:apA a b c L l->YieldAt Fence.wide 4 prog yl (Na x) W1 λe W'=>(e= NK (.bool NC)/\d (pre++[x]) W'/\BelowX n₀ sb W1 W')\/(e= NK (.bool ND)/\Jx (pre++[x]) W'))
 (W:NL)(hJ:∀pre w w',d pre w->Ext w w'->d pre w')
 (hG:Good a b c L)(A1:L.length=n)(hn:n<=20)(Gx:l.length=u)(K4:u<=cl)(Ay:u<=100)(Ao:∀p∈l,0<=p/\p<n)
 (hs:W.heap[O]? =I (Z #[a,b,c,m,U C n cap] 117))(hl:W.heap[K]? =I (Z #[U bl u cl] 57))(Py:n₀<=W.heap.size)(Lf:O<n₀)(Hz:K<n₀)(Hn:O≠sb)(Ry:K≠sb)
 (hK:∀w',BelowX n₀ sb W w'->Meas w'/\RawA w' C L/\RawI w' bl l)(h0:d [] W):
 CallsIn Fence.wide 5 prog 103 #[.func (.yield yl) #[] #[],J (I K),J (I O)] W λe W'=>(∃v,e= NK v)/\((∃xs,xs=apA a b c L l/\d xs W')\/(∃pre,pre<+:apA a b c L l/\Jx pre W')):=by
 have q0:=Z0 hl 0;simp only[YC,YA]at q0;refine callsIn_of_wp (fk Tryz.func103) rfl trivial ?_ rfl;simp only[Tryz.ntmps103,UG,YP,XW,Nat.reduceAdd,Nat.reduceSub,TF,TE,TM,TG,YJ,YK];refine pL ?_
 gi_wp2
 refine wpIn_label ?_
 gi_wp2
 gi_loopw [12] (λv wr=>∃i:Nat,i<=u/\v= NE NF i/\BelowX n₀ sb W wr/\∃pre,d pre wr/\Hid (apA a b c L l=pre++apA a b c L (l.drop i))) (λv _=>u - (intOf v).toNat)
 case atStart=>exact⟨0,XL _,rfl,BelowX.refl _ _ _,[],h0,rfl⟩
 case round=>
  obtain⟨i,hi,rfl,X,pre,Xs,hH⟩:=hrel;by_cases a4:i=u
  .subst a4;have hz:apA a b c L l=pre:=by rw[hH.out,<-Gx,UW];simp[apA]
   gi_wp2
   rw[Exit.noGoto_normal]
   go_end0
   exact⟨⟨_,rfl⟩,.inl ⟨_,rfl,by rw[hz];exact Xs⟩⟩
  .have A5:i<u:=OA
   obtain⟨p,hp⟩:∃p,l[i]? =I p:=⟨_,YH OA⟩;obtain⟨Y,hS,hI⟩:=hK wr X;obtain⟨b',o',rfl,a2,a1⟩:=hI i p hp;have He:wr.cell? ⟨K,0,NB⟩=I (U (I ⟨b',o',NB⟩) u cl):=(X.cell (p:=⟨K,0,NB⟩) Hz Ry).trans q0;have Jm:Hid (apA a b c L l=pre++(apR a b c L p (l.drop (i+1))++apA a b c L (l.drop (i+1)))):=by show _=_;rw[hH.out,jQ a b c L hp]
   clear hH;by_cases E0:cl=i+1
   .have hkl1:u=i+1:=OA;subst E0;subst hkl1;have M:Hid (apA a b c L l=pre++apA a b c L (l.drop (i+1))):=(by show _=_;rw[Jm.out,<-Gx,UW];simp[apR]);clear Jm
    gi_wp2
    obtain⟨H,rfl⟩:∃H:NL,H=wr:=⟨_,rfl⟩
    gi_loopw [22] (λv wr=>v= NE NF 0/\wr=H) (λ_ _=>0)
    case atStart=>exact⟨rfl,rfl⟩
    case round=>
     obtain⟨rfl,rfl⟩:=hrel
     gi_wp2
     go_roundw
     case rel=>exact⟨i+1,OA,by push_cast;rfl,X,pre,Xs,M⟩
     case measure=>simp[intOf]
   .have hcap2:i+1<cl:=OA;have Ga:¬(i+1=cl):=OA
    gi_wp2
    obtain⟨H,rfl⟩:∃H:NL,H=wr:=⟨_,rfl⟩;have Qn:=Ao p (YQ hp);obtain⟨t,rfl⟩:=UA Qn.1;obtain⟨x,hx⟩:∃x,L[t]? =I x:=⟨_,YH OA⟩;clear hp Y hS hI a1 He a2
    gi_loopw [22] (λv wr=>∃j:Nat,j<=u - (i+1)/\v= NE NF j/\BelowX n₀ sb W wr/\∃pre,d pre wr/\Hid (apA a b c L l=pre++(apR a b c L t ((l.drop (i+1)).drop j)++apA a b c L (l.drop (i+1))))) (λv _=>u - (i+1) - (intOf v).toNat)
    case atStart=>exact⟨0,XL _,rfl,X,pre,Xs,Jm⟩
    case round=>
     obtain⟨j,_,rfl,Dr,A,Uf,M⟩:=hrel;clear Xs Jm X;by_cases Iu:j=u - (i+1)
     .have S3:Hid (apA a b c L l=A++apA a b c L (l.drop (i+1))):=by
       show _=_;rw[M.out,List.drop_drop,TR OA];rfl
      have G2:¬j<u - (i+1):=OA;have Ha:u - (i+1)<=j:=OA;clear M
      gi_wp2
      go_roundw
      case rel=>exact⟨i+1,OA,by push_cast;rfl,Dr,A,Uf,S3⟩
      case measure=>simp[intOf];omega
     .have Nh:j<u - (i+1):=OA;obtain⟨q,hq⟩:∃q,l[i+1+j]? =I q:=⟨_,YH OA⟩;have a3:=Ao q (YQ hq);obtain⟨z,rfl⟩:=UA a3.1;obtain⟨y,hy⟩:∃y,L[z]? =I y:=⟨_,YH OA⟩;have S3:Hid (apA a b c L l=A++(((List.range 3).drop 0).flatMap (apE a b c L t z)++(apR a b c L t ((l.drop (i+1)).drop (j+1))++apA a b c L (l.drop (i+1))))):=by
       show _=_;rw[M.out,gi a b c L t (q:=(z:Int)) (by rw[List.getElem?_drop];exact hq)];simp[apP,List.range,List.range.loop]
      obtain⟨Y,hS,hI⟩:=hK wr Dr;obtain⟨_,_,G7,Aw,Dq⟩:=hI (i+1+j) z hq;simp only[XM,Addr.mk.injEq,and_true]at G7;obtain⟨rfl,rfl⟩:=G7;have S4:wr.cell? ⟨b',o'+(i+1)+j,NB⟩=I (NE NF z):=(by rw[TA];exact Dq);clear Dq M hq
      gi_wp2
      obtain⟨w3,rfl⟩:∃w3:NL,w3=wr:=⟨_,rfl⟩;clear Y hS hI S4 Aw
      gi_loopw [26] (λv wr=>∃k:Nat,k<=3/\v= NE NF k/\BelowX n₀ sb W wr/\∃pre,d pre wr/\Hid (apA a b c L l=pre++(((List.range 3).drop k).flatMap (apE a b c L t z)++(apR a b c L t ((l.drop (i+1)).drop (j+1))++apA a b c L (l.drop (i+1)))))) (λv _=>3 - (intOf v).toNat)
      case atStart=>exact⟨0,XL _,rfl,Dr,A,Uf,S3⟩
      case round=>
       obtain⟨k,_,rfl,E,f,No,Xt⟩:=hrel;clear Uf Dr S3;by_cases S5:k=3
       .subst S5;have F:Hid (apA a b c L l=f++(apR a b c L t ((l.drop (i+1)).drop (j+1))++apA a b c L (l.drop (i+1)))):=(by show _=_;rw[Xt.out];rfl);clear Xt
        gi_wp2
        go_roundw
        case rel=>exact⟨j+1,OA,by push_cast;rfl,E,f,No,F⟩
        case measure=>simp[intOf];omega
       .have Ay:k<3:=OA;obtain⟨Y,hS,_⟩:=hK wr E;have T:=(E.block O Lf Hn).trans hs;have s0:=Z0 T 0;have s1:=Z0 T 1;have s2:=Z0 T 2;have s3:=Z0 T 3;have s4:=Z0 T 4;simp only[YC,YA,YB]at s0 s1 s2 s3 s4;have Gf:=js a b c m C n cap L x y t z k Ay wr hG Y hS A1 hn hx hy;have F:Hid (apA a b c L l=f++(apE a b c L t z k++(((List.range 3).drop (k+1)).flatMap (apE a b c L t z)++(apR a b c L t ((l.drop (i+1)).drop (j+1))++apA a b c L (l.drop (i+1)))))):=by
         show _=_;rw[Xt.out,WP (i:=k) (x:=k) (by simp[Ay]),UN,RV]
        have V:Hid (apE a b c L t z k=if U1 a b c x y k=1 then[]else[⟨t,z,k,U1 a b c x y k⟩]):=(by show _=_;unfold apE;simp only[US,hx,hy]);clear Xt;generalize U1 a b c x y k=s at Gf V;by_cases Bo:s=1
        .subst Bo;have Ui:Hid (apA a b c L l=f++(((List.range 3).drop (k+1)).flatMap (apE a b c L t z)++(apR a b c L t ((l.drop (i+1)).drop (j+1))++apA a b c L (l.drop (i+1))))):=(by show _=_;rw[F.out,V.out];rfl);clear F V
         gi_wp2_with (first|(refine⟨trivial,?_⟩;gi_at_call 104;refine(SI.2 Gf).mono ?_;rintro e w2 ⟨rfl,A2⟩))
         refine⟨λ_ h=>(by cases h),?_⟩
         gi_wp2
         go_roundw
         case rel=>exact⟨k+1,OA,by push_cast;rfl,E.trans (Oj (A2.alloc _) (XC Py E.size)),f,hJ _ _ _ No (A2.alloc _),Ui⟩
         case measure=>simp[intOf];omega
        .have Ab:((s:Int) !=1)=NC:=(by simpa using Bo);have Ui:Hid (apA a b c L l=(f++[⟨t,z,k,s⟩])++(((List.range 3).drop (k+1)).flatMap (apE a b c L t z)++(apR a b c L t ((l.drop (i+1)).drop (j+1))++apA a b c L (l.drop (i+1))))):=(by show _=_;rw[F.out,V.out,XB Bo];simp);clear F V Bo
         gi_wp2_with (first
          |(refine⟨trivial,?_⟩;gi_at_call 104;refine(SI.2 Gf).mono ?_;rintro e w2 ⟨rfl,A2⟩
            obtain⟨_,_,_,_,S7,S8⟩:=hY f ⟨t,z,k,s⟩ (w2.alloc (Z #[t,z,k,s] 81)) (hJ _ _ _ No (A2.alloc _)) (by rw[Ui.out];exact List.prefix_append _ _);dsimp only[Na]at S7))
         refine S8.mono ?_;rintro e _ (⟨rfl,Np,Tn⟩|⟨rfl,a0⟩)
         .gi_wp2
          go_roundw
          case rel=>exact⟨k+1,OA,by push_cast;rfl,(E.trans (Oj (A2.alloc _) (XC Py E.size))).trans Tn,_,Np,Ui⟩
          case measure=>simp[intOf];omega
         .gi_wp2
          rw[Exit.noGoto_normal];refine bodyPost_end (results_none rfl _ _ _) rfl ?_;exact⟨⟨_,rfl⟩,.inr ⟨_,by rw[Ui.out];exact List.prefix_append _ _,a0⟩⟩
def cL(a b c m:Int)(d:Option NP)(n cap:Nat)(bl:Option NP)(f cl:Nat)(w:NL):NW prog 58 #[NJ #[a,b,c,m,U d n cap],U bl f cl] w λe w'=>
 e= NK (.func (.func 103) #[] #[J (I ⟨w.heap.size+1,0,NB⟩),J (I w.heap.size)])/\w'=(w.alloc (Z #[a,b,c,m,U d n cap] 117)).alloc (Z #[U bl f cl] 57):=by
 go_enter fk Tryz.func58,Tryz.ntmps58;go_wp2;go_ret;exact⟨rfl,rfl⟩
def Zr(A:List Ap):Int:=if A.any (λx=>x.s==2)then 2 else if A.isEmpty then 1 else 0
def mr(N:Int)(p q:Int×Int):Tg N p q=0\/Tg N p q=1\/Tg N p q=2:=by
 unfold Tg;split
 .exact .inr (.inl rfl)
 .split
  .exact .inr (.inr rfl)
  .exact .inl rfl
def apE_s{L:List Sf}{k:Nat}:∀x∈apE a b c L p q k,x.s=0\/x.s=2:=by
 intro x d;unfold apE at d;split at d
 .rename_i y z _ _;have f:=mr (alw a b c k) (spA y k) (spA z k);change U1 a b c y z k=0\/U1 a b c y z k=1\/U1 a b c y z k=2 at f;split at d
  .cases d
  .rename_i Ab;simp only[XP]at d;subst d;rcases f with h|h|h
   .exact .inl h
   .exact absurd h Ab
   .exact .inr h
 .cases d
def bG{a b c:Int}{L:List Sf}:∀{l:List Int}(x:Ap),x∈apA a b c L l->x.s=0\/x.s=2
 |[],x,hx=>by cases hx
 |p::t,x,hx=>by
  rcases VI.1 hx with hx|hx
  .obtain⟨q,_,hq⟩:=TV.1 hx;simp only[apP,VI]at hq;rcases hq with hq|hq|hq<;>exact apE_s x hq
  .exact bG x hx
def BelowX.ext(h:BelowX n₀ sb W w')(e:Ext w W)(f:w.heap.size<=sb)(i:w.heap.size<=n₀):Ext w w':=
 ⟨XC e.size h.size,λb d=>(h.block b OA OA).trans (e.old b d),h.tape.trans e.tape,h.os.trans e.os,h.output.trans e.output⟩
def sayF:List Ap->Int
 |[]=>1
 |x::l=>(l.getLast?.getD x).s
def eO(l:List Ap)(x:Ap):sayF (l++[x])=x.s:=by
 cases l with|nil=>rfl|cons y l=>simp[sayF]
def sayF_match:∀{l:List Ap},(∀x∈l,x.s=0)->sayF l=Zr l
 |[],_=>rfl
 |x::l,h=>by
  have d:(x::l).any (λx=>x.s==2)=ND:=by
   rw[List.any_eq_false];intro y f;rw[h y f];decide
  simp only[Zr,d,List.isEmpty_cons,sayF];refine h _ ?_;cases hl:l.getLast? with|none=>exact YY|some y=>exact YW _ (List.mem_of_getLast? hl)
def Dp(h:Ext w W){D:Nat}{o:Obj}(f:w.heap.size<=D):Ext w (W.putObj D o):=
 ⟨by rw[World.putObj_size];exact h.size,λb d=>(UC OA).trans (h.old b d),h.tape,h.os,h.output⟩
def CY(a b c m:Int)(f:Option NP)(n cap:Nat)(L:List Sf)(bl:Option NP)(z cl:Nat)(l:List Int)(w:NL)
 (hG:Good a b c L)(A1:L.length=n)(hn:n<=20)(Gx:l.length=z)(K4:z<=cl)(Ay:z<=100)(Ao:∀p∈l,0<=p/\p<n)
 (hM:Meas w)(hS:RawA w f L)(hI:RawI w bl l):
 NW prog 56 #[NJ #[a,b,c,m,U f n cap],U bl z cl] w (OI (NE NF (Zr (apA a b c L l))) w):=by
 refine(SI (n:=6)).1 ?_;refine callsIn_of_wp_marks (fk Tryz.func56) rfl trivial ?_ rfl;simp only[Tryz.ntmps56,UG,YP,XW,Nat.reduceAdd,Nat.reduceSub,TF,TE,TM,TG,YJ,YK]
 gi_wp2_with (refine⟨trivial,?_⟩;gi_at_call 58;refine(SI.2 (cL _ _ _ _ _ _ _ _ _ _ _)).mono ?_;rintro e w' ⟨rfl,rfl⟩)
 have Af:Ext w ((((w.alloc (Z #[a,b,c,m,U f n cap] 117)).alloc (Z #[NE NF 1] 54)).alloc (Z #[a,b,c,m,U f n cap] 117)).alloc (Z #[U bl z cl] 57)):=((((Ext.rfl' w).alloc _).alloc _).alloc _).alloc _;have Ba:((((w.alloc (Z #[a,b,c,m,U f n cap] 117)).alloc (Z #[NE NF 1] 54)).alloc (Z #[a,b,c,m,U f n cap] 117)).alloc (Z #[U bl z cl] 57)).heap.size=w.heap.size+4:=by simp only[Z2]
 have h1:((((w.alloc (Z #[a,b,c,m,U f n cap] 117)).alloc (Z #[NE NF 1] 54)).alloc (Z #[a,b,c,m,U f n cap] 117)).alloc (Z #[U bl z cl] 57)).heap[w.heap.size+1]? =I (Z #[NE NF 1] 54):=by
  simp only[Z3,Z2];rw[XB OA,XB OA,YZ trivial]
 have h2:((((w.alloc (Z #[a,b,c,m,U f n cap] 117)).alloc (Z #[NE NF 1] 54)).alloc (Z #[a,b,c,m,U f n cap] 117)).alloc (Z #[U bl z cl] 57)).heap[w.heap.size+1+1]? =I (Z #[a,b,c,m,U f n cap] 117):=by
  simp only[Z3,Z2];rw[XB OA,YZ trivial]
 have h3:((((w.alloc (Z #[a,b,c,m,U f n cap] 117)).alloc (Z #[NE NF 1] 54)).alloc (Z #[a,b,c,m,U f n cap] 117)).alloc (Z #[U bl z cl] 57)).heap[w.heap.size+1+1+1]? =I (Z #[U bl z cl] 57):=by
  simp only[Z3,Z2];rw[YZ trivial]
 generalize ((((w.alloc (Z #[a,b,c,m,U f n cap] 117)).alloc (Z #[NE NF 1] 54)).alloc (Z #[a,b,c,m,U f n cap] 117)).alloc (Z #[U bl z cl] 57))=C at Af Ba h1 h2 h3⊢;have C9:∀(W w':NL),Ext C W->BelowX C.heap.size (w.heap.size+1) W w'->Ext w w':=λW w' h h'=>h'.ext (Af.trans h) OA OA
 refine wpIn_rangeFunc_ownH rfl OA (gf:=103) (lb:= #[J (I ⟨w.heap.size+1+1+1,0,NB⟩),J (I ⟨w.heap.size+1+1,0,NB⟩)]) rfl trivial (λ_ w=>by simp[go_sem])
  (encs:=Na) (Kp:=BelowX C.heap.size (w.heap.size+1)) (S:=λxs=>xs=apA a b c L l) (Sp:=λpre=>pre<+:apA a b c L l) (N:=(apA a b c L l).length) (w0:=C)
  (λyl d Jx W E a0 _ hY h0=>dO a b c m f n cap L bl z cl l (w.heap.size+1+1+1) (w.heap.size+1+1) C.heap.size (w.heap.size+1) yl d Jx
    (λpre x W1 hJ hp=>hY pre x W1 hJ (by have:=hp.length_le;simp at this;omega)) W (λpre u u' hu e=>a0 pre u u' NB hu (Uh e) (λr h=>by cases h)) hG A1 hn Gx K4 Ay Ao
    ((E.block _ OA).trans h2) ((E.block _ OA).trans h3) E.size OA OA OA OA
    (λw' hX=>by have e:=C9 W w' ⟨E.size,E.block,E.tape,E.os,E.output⟩ hX;exact⟨hM.ext e,hS.ext e,hI.ext e⟩) h0)
  (λh h'=>h.trans h')
  (λW l o _ _ ho _ _=>⟨rfl,rfl,rfl,OD,λk A _=>UC OA⟩)
  (Below.refl _ _) (λ_=>rfl)
  (λpre W=>W.heap[w.heap.size+1]? =I (Z #[NE NF (sayF pre)] 54)/\(∀x∈pre,x.s≠2)/\Ext w W/\C.heap.size<=W.heap.size)
  (λcd pre W=>cd= .exit 0/\W.heap[w.heap.size+1]? =I (Z #[NE NF 2] 54)/\(∃x∈pre,x.s=2)/\Ext w W)
  ?hI ?Ow ⟨h1,OD,Af,XA _⟩
  (λx a' W=>∃Bx,C.heap.size<=Bx/\W.heap[Bx]? =I (Z #[x.p,x.q,x.k,x.s] 81)/\a'={tmps:= #[NJ #[a,b,c,m,U f n cap],U bl z cl,J (I w.heap.size),NQ,NE NF 0,J (I ⟨w.heap.size+1,0,NB⟩),J (I ⟨Bx,0,NB⟩),NJ #[a,b,c,m,U f n cap],U bl z cl,.func (.func 103) #[] #[J (I ⟨w.heap.size+1+1+1,0,NB⟩),J (I ⟨w.heap.size+1+1,0,NB⟩)],NJ #[x.p,x.q,x.k,x.s],NQ,NQ,NQ,NQ,NQ],defers:=[]})
  ?hAx ?assign ?body ?done ?stop
 case hI=>
  rintro pre W W' O ⟨j,t,g3,H⟩ i F;refine⟨(i.block _ OA (λe=>by have:=(F _ e.symm).1;omega)).trans j,t,⟨XC g3.size i.size,λk A=>(i.block k (YS A g3.size) (λe=>by have:=(F _ e.symm).1;omega)).trans (g3.old k A),i.tape.trans g3.tape,i.os.trans g3.os,i.output.trans g3.output⟩,XC H i.size⟩
 case Ow=>
  rintro cd pre W W' O ⟨g0,j,t,g3⟩ i F;refine⟨g0,(i.block _ (Z5 j) (λe=>by have:=(F _ e.symm).1;omega)).trans j,t,⟨XC g3.size i.size,λk A=>(i.block k (YS A g3.size) (λe=>by have:=(F _ e.symm).1;omega)).trans (g3.old k A),i.tape.trans g3.tape,i.os.trans g3.os,i.output.trans g3.output⟩⟩
 case hAx=>
  rintro x a' _ W W' O ⟨Bx,j,t,g3⟩ i F;refine⟨Bx,j,(i.block _ (Z5 t) (λe=>by obtain⟨_,o,ho,hc⟩:=F _ e.symm;rw[t]at ho;cases ho;cases hc)).trans t,g3⟩
 case assign=>
  rintro yl pre x W K ⟨j,t,g3,H⟩ V;have hz:(Na x).size=1:=rfl;simp only[Na,List.zip_toArray,SR,List.zip_nil_left,List.zip_nil_right,List.foldl_toArray',VU,List.foldl_nil,UG,YP,XW,VM,UJ,UU,Nat.reduceAdd]
  gi_wp2
  refine V _ _ ((TI _ _).from _) (Oj ((Ext.rfl' W).alloc _) H) ⟨((Ext.rfl' W).alloc _).get j,t,g3.trans ((Ext.rfl' W).alloc _),by simp only[Z2];omega⟩ ⟨W.heap.size,H,by rw[Z3,YZ rfl],rfl⟩
 case body=>
  rintro yl pre x a' W _ ⟨r,F⟩ ⟨j,t,g3,H⟩ ⟨Bx,_,bX,rfl⟩ _;have q3:=Z0 bX 3;have q0:=Z0 j 0;have f0:=Z8 j 0;simp only[YC,YA,YB]at q3 q0;obtain⟨_,_,_,xs⟩:=x;simp only at q3 bX;have Kj:∀v,(W.setCell ⟨w.heap.size+1,0,NB⟩ v).heap[w.heap.size+1]? =I (Z #[v] 54):=λv=>Zb j v
  have Gt:∀v k,k≠w.heap.size+1->(W.setCell ⟨w.heap.size+1,0,NB⟩ v).heap[k]? =W.heap[k]? :=λv k A=>set_ne A v
  have Y:=λv=>VT W ⟨w.heap.size+1,0,NB⟩ v
  have T:∀v,BelowX C.heap.size (w.heap.size+1) W (W.setCell ⟨w.heap.size+1,0,NB⟩ v):=λv=>
   ⟨(Y v).os,(Y v).tape,(Y v).output,by rw[(Y v).size];exact XA _,λk _ A=>Gt v k A⟩
  have M:∀v,Ext w (W.setCell ⟨w.heap.size+1,0,NB⟩ v):=λv=>g3.setCell _ _ OD
  by_cases h:xs=2
  .subst h
   gi_wp2
   exact⟨(VO _ _ _).from _,rfl,Kj _,⟨_,List.mem_append_right _ (XP.2 rfl),rfl⟩,M _⟩
  .have hd:decide (xs=2)=ND:=by simp[h]
   gi_wp2
   refine⟨(VO _ _ _).from _,by rw[<-Ba];exact T _,by rw[eO];exact Kj _,?_,M _,by rw[<-Ba];exact XC H (T (NE NF xs)).size⟩;intro y hy;rcases VI.1 hy with hy|hy
   .exact t y hy
   .cases XP.1 hy;exact h
 case done=>
  rintro D xs W hD rfl ⟨j,t,g3,H⟩ V;have q0:=Z0 j 0;simp only[YC,YA,YB]at q0
  gi_wp2
  refine⟨OD,.inl ⟨_,_,rfl,run_takeDeferred V,?_⟩⟩;have hv:sayF (apA a b c L l)=Zr (apA a b c L l):=sayF_match (λx X=>(bG x X).resolve_right (t x X));rw[hv];exact⟨_,RR rfl _ _ _,rfl,Dp g3 OA⟩
 case stop=>
  rintro D cd pre W hD hp ⟨rfl,j,t,g3⟩ V;have q0:=Z0 j 0;simp only[YC,YA,YB]at q0
  gi_wp2
  refine⟨OD,.inl ⟨_,_,rfl,run_takeDeferred V,?_⟩⟩;obtain⟨x,X,Av⟩:=t;have hv:Zr (apA a b c L l)=2:=by
   have:(apA a b c L l).any (λx=>x.s==2)=NC:=SM.2 ⟨x,hp.subset X,by rw[Av];rfl⟩;simp only[Zr,this,XY]
  rw[hv];exact⟨_,RR rfl _ _ _,rfl,Dp g3 OA⟩
def K2(h:firstV [x,y]=0):x=0/\y=0:=by
 simp only[firstV]at h;split at h
 .split at h
  .exact⟨by assumption,by assumption⟩
  .exact absurd h (by assumption)
 .exact absurd h (by assumption)
def shA_ok:∀{L:List Sf}{d:List (List UInt8)},shA d L=0->∀x∈L,WO x=NC
 |[],_,_,x,hx=>by cases hx
 |y::t,d,h,x,hx=>by
  simp only[shA]at h;split at h
  .exact absurd h OC
  .split at h
   .exact absurd h OC
   .split at h
    .exact absurd h OC
    .rename_i h3;rcases XG.1 hx with rfl|hx
     .simpa using h3
     .exact shA_ok h x hx
def cZ{L:List Sf}(h:Zp a b c m L=0):Good a b c L/\L.length<=9/\2<=m/\m<=4:=by
 obtain⟨i,f⟩:=K2 h;have d:okA a 9999&&okA b 9999&&okA c 9999&&decide (2<=m/\m<=4):=by
  unfold W4 at i;split at i
  .assumption
  .cases i
 simp only[okA,YG,XE]at d;unfold Zj at f;split at f
 .cases f
 .exact⟨⟨d.1.1.1,d.1.1.2,d.1.2,shA_ok f⟩,OA,d.2.1,d.2.2⟩
def fO(n:Nat)(o:Option Int)(x:Int)(t:List Int):V9 n o (x::t)=if¬(0<=x/\x<=(n:Int) - 1)then 6 else if(match o with|some y=>decide (x<=y)|none=>ND)then 7 else V9 n (I x) t:=by
 cases o<;>rfl
def ck{n:Nat}:∀{l:List Int}{o:Option Int},V9 n o l=0->∀p∈l,0<=p/\p<n
 |[],_,_,x,hx=>by cases hx
 |y::t,o,h,x,hx=>by
  rw[fO]at h;generalize (match o with|some z=>decide (y<=z)|none=>ND)=f at h;by_cases d:¬(0<=y/\y<=(n:Int) - 1)
  .rw[YZ d]at h;exact absurd h OC
  .rw[XB d]at h;cases f with
   |true=>rw[YZ rfl]at h;exact absurd h OC
   |false=>
    rcases XG.1 hx with rfl|hx
    .have:=RX.1 d;omega
    .exact ck (o:=I y) h x hx
def IM{L:List Sf}(h:Zo a b c m L l=0):Good a b c L/\(∀p∈l,0<=p/\p<L.length)/\L.length<=9/\2<=m/\m<=4:=by
 obtain⟨d,f⟩:=K2 h;exact⟨(cZ d).1,ck f,(cZ d).2⟩
def OY(a b c m:Int)(L:List Sf)(l:List Int):Int:=if Zo a b c m L l=0 then Zr (apA a b c L l)else 0
def og(a b c m:Int)(d:Option NP)(n cap:Nat)(L:List Sf)(bl:Option NP)(k cl:Nat)(l:List Int)(w:NL)(j:L.length=n)(F:n<=20)(A:l.length=k)(M:k<=cl)(C:k<=100)(z:Meas w)(K:RawA w d L)(E:RawI w bl l):
 NW prog 21 #[NJ #[a,b,c,m,U d n cap],U bl k cl] w (OI (.tuple #[NE NF (OY a b c m L l),NE NF (Zo a b c m L l)]) w):=by
 have i:=λW f=>J7 a b c m d n cap L bl k cl l W j F A C (z.ext f) (K.ext f) (E.ext f)
 by_cases h:Zo a b c m L l=0
 .obtain⟨hG,Ao,_⟩:=IM h;have H:=λW f=>CY a b c m d n cap L bl k cl l W hG j F A M C (by rw[<-j];exact Ao) (z.ext f) (K.ext f) (E.ext f)
  have f:OY a b c m L l=Zr (apA a b c L l):=YZ h;rw[h]at i⊢;rw[f];generalize Zr (apA a b c L l)=v at H⊢;go_enter fk Tryz.func21,Tryz.ntmps21
  go_wp2_with (first
   |(go_at_call 55;refine(i _ OF).r λw2 u=> ?_
     have t:Ext w w2:=Ext.trans OF u)
   |(go_at_call 56;refine(H _ OF).r λw3 H=> ?_))
  go_ret2;exact⟨rfl,t.trans (Ext.trans ((Ext.rfl' _).alloc _) H)⟩
 .have f:OY a b c m L l=0:=XB h;have H:(Zo a b c m L l !=0)=NC:=by simpa using h
  rw[f];generalize Zo a b c m L l=f at i H⊢;go_enter fk Tryz.func21,Tryz.ntmps21
  go_wp2_with (
   go_at_call 55;refine(i _ OF).r λw2 u=> ?_
   have t:Ext w w2:=Ext.trans OF u)
  go_ret2;exact⟨rfl,t.alloc _⟩
end
def u27:prog.underlying 57=I (.slice 3):=(underlying_eq 57).trans Tryz.underlying57
def i3:prog.info? 3=I Tryz.t3:=OB
def t3z:Tryz.t3.zero=I (NE NF 0):=OB
def t3s:Tryz.t3.size=1:=OB
def t3b:Tryz.t3.bytes=8:=OB
def OwnI(b:Nat)(w:NL)(v:NM)(l:List Int):Prop:=w.ownsRow b 3 1 v l.length (l.map (Value.int NF))
def WU(w:NL)(v:NM)(t:NT):∀(j:Nat)(u:NM),[v][j]? =I u->(w.alloc (Z #[v] t)).cell? ((⟨w.heap.size,0,NB⟩:NP).add j)=I u:=by
 intro j u d
 match j,d with
 |0,d=>
  obtain rfl:=YT d;rw[ZU,Z0 (by rw[Z3,YZ rfl])];rfl
 |j+1,d=>simp at d
def bl_all:(List.range 256).all (λs=>s==0||(bl s==tz s::bl (s&&& (s - 1))&&decide ((s&&& (s - 1))<s)&&bits .and NF (s:Int) ((s:Int) - 1)==((s&&& (s - 1):Nat):Int)))=NC:=OB
def mp(d:s<256)(f:0<s):bl s=tz s::bl (s&&& (s - 1))/\(s&&& (s - 1))<s/\bits .and NF (s:Int) ((s:Int) - 1)=((s&&& (s - 1):Nat):Int):=by
 have:=YL.1 bl_all s (YU.2 d);simp only[UF,YG,XU,XE]at this;rcases this with h|h
 .omega
 .exact⟨h.1.1,h.1.2,h.2⟩
def eD(s:Nat):(bl s).length<=8:=by
 have:=QC (λi=>s.testBit i) (List.range 8);simpa[bl]using this
def nU(k:Nat)(z:k<256)(w:NL)(t:Deb w):NW prog 117 #[k] w λe w'=>∃v,e= NK v/\OwnI w.heap.size w' v ((bl k).map fun(i:Nat)=>(i:Int))/\Ext w w':=by
 go_enter fk Tryz.func117,Tryz.ntmps117;go_wp2;go_loopw [0,3] (λC E wr=>∃s:Nat,s<256/\∃pre:List Nat,bl k=pre++bl s/\C= NE NF s/\OwnI w.heap.size wr E (pre.map fun(i:Nat)=>(i:Int))/\Ext w wr) (λC _ _=>(intOf C).toNat)
 case atStart=>exact⟨k,z,[],rfl,rfl,VJ _ _ _ _,Ext.rfl' w⟩
 case round=>
  rename_i E _;obtain⟨s,H,pre,d,rfl,A,f⟩:=hrel;by_cases K:s=0
  .subst K;have M:bl k=pre:=by rw[d];simp[bl]
   clear d;subst M;go_wp2;go_ret;exact⟨_,rfl,A,f⟩
  .obtain⟨s',h1,h2,h3⟩:∃s':Nat,bl s=tz s::bl s'/\s'<s/\bits .and NF (s:Int) ((s:Int) - 1)=(s':Int):=⟨_,mp H OA⟩;have A1:pre.length+1<=8:=by
    have:=eD k;rw[d,h1]at this;simp at this;omega
   have L:Hid (bl s=tz s::bl s'):=h1;have V:Hid (bl k=pre++bl s):=d;clear h1 d;have Y:(0:Int)<=(s:Int):=OA
   have Bo:(s:Int)<256:=OA
   have C6:(0:Int)<=(s':Int):=OA
   have Ab:((s:Int) !=0)=NC:=by simp;omega
   have h:=λw t=>oQ s H OA w t
   have j:=t.ext f
   go_wp2_with (first
    |(go_at_call 145;refine(h _ j).q ?_)
    |(at_builtin
      refine UB _ rfl _ _ _ rfl w.heap.size 3 Tryz.t3 (NE NF 0) 1 8 u27 i3 t3z t3s t3b rfl OA _ _ _ rfl (A.alloc _) wr.heap.size 1 1 [NE NF (tz s)] rfl rfl (WU _ _ _) (by intro u F;simp at F;subst F;rfl) (by simp[maxLen];omega) (by simp;omega) (by have:=f.size;simp;omega) ?_;intro v' w3 X T _;have O:Ext w w3:=(f.alloc _).grown T (λk z=>(A.lt k z).1)))
   go_roundw
   case rel=>exact⟨s',OA,pre++[tz s],by rw[V,L];simp,rfl,by simpa[OwnI]using X,O⟩
   case measure=>simp[intOf];omega
section
attribute [local go_sem] Oper.semAt_some
def u35:prog.underlying 58=I (.slice 81):=(underlying_eq 58).trans Tryz.underlying58
def i46:prog.info? 81=I Tryz.t81:=OB
def t46z:Tryz.t81.zero=I (NJ #[NE NF 0,NE NF 0,NE NF 0,NE NF 0]):=OB
def t46s:Tryz.t81.size=4:=OB
def t46b:Tryz.t81.bytes=32:=OB
def apC(x:Ap):List NM:=[NE NF x.p,NE NF x.q,NE NF x.k,NE NF x.s]
def OwnAp(b:Nat)(w:NL)(v:NM)(A:List Ap):Prop:=w.ownsRow b 81 4 v A.length (A.flatMap apC)
def WX{d f:Nat}(h:w.ownsRow d e f v n xs)(z:base'<=d):w.ownsRow base' e f v n xs:=
 ⟨h.1,h.2.imp id fun⟨g,cap,i,t,j,u⟩=>⟨g,cap,i,t,XC z j,u⟩⟩
def GF(a b c:Int)(L:List Sf)(p q:Int)(k:Nat):(apE a b c L p q k).length<=1:=by
 unfold apE;split
 .split<;>simp
 .simp
def oZ(a b c:Int)(L:List Sf)(p q:Int):(apP a b c L p q).length<=3:=by
 have d:=GF a b c L p q 0;have d:=GF a b c L p q 1;have d:=GF a b c L p q 2;simp only[apP,XH];omega
def bc(a b c:Int)(L:List Sf)(p:Int):∀t:List Int,(apR a b c L p t).length<=3*t.length
 |[]=>by simp[apR]
 |q::t=>by
  have h:=oZ a b c L p q;have d:=bc a b c L p t;simp only[apR,UN,XH,YP]at d⊢;omega
def ah(a b c:Int)(L:List Sf)(n:Nat):∀l:List Int,l.length<=n->(apA a b c L l).length<=3*n*l.length
 |[],_=>by simp[apA]
 |p::t,h=>by
  have f:=bc a b c L p t;have d:=ah a b c L n t (by simp at h;omega);simp only[apA,XH,YP]at h f d⊢;have d:3*n*(t.length+1)=3*n*t.length+3*n:=by rw[Nat.mul_add,Nat.mul_one]
  omega
def iZ(w:NL)(i h f d:NM)(t:NT):∀(j:Nat)(u:NM),[i,h,f,d][j]? =I u->(w.alloc (Z #[i,h,f,d] t)).cell? ((⟨w.heap.size,0,NB⟩:NP).add j)=I u:=by
 intro j u j;rw[ZU,Z0 (by rw[Z3,YZ rfl])];simpa using j
def jt(a b c m:Int)(t:Option NP)(n cap:Nat)(L:List Sf)(bl:Option NP)(kl cl:Nat)(l:List Int)(sl X:Nat)(w:NL)
 (hG:Good a b c L)(A1:L.length=n)(hn:n<=20)(Gx:l.length=kl)(K4:kl<=cl)(Ay:kl<=100)(Ao:∀p∈l,0<=p/\p<n)
 (hM:Meas w)(hS:RawA w t L)(hI:RawI w bl l)
 (h2:w.heap[X]? =I (Z #[a,b,NE NF c,m,U t n cap] 117))(h3:w.heap[sl]? =I (Z #[U bl kl cl] 57)):
 NW prog 102 #[U NB 0 0,.func (.func 103) #[] #[J (I sl),J (I X)]] w λe w'=>∃v,e= NK v/\OwnAp w.heap.size w' v (apA a b c L l)/\Ext w w':=by
 have a2:(apA a b c L l).length<=30000:=by
  have h:=ah a b c L 100 l OA;have:3*100*l.length<=30000:=OA
  omega
 have Nq:=Z5 h2;have Ox:=Z5 h3;refine(SI (n:=6)).1 ?_;refine callsIn_of_wp_marks (fk Tryz.func102) rfl trivial ?_ rfl;simp only[Tryz.ntmps102,UG,YP,XW,Nat.reduceAdd,Nat.reduceSub,TF,TE,TM,TG,YJ,YK]
 gi_wp2
 have Af:Ext w (w.alloc (Z #[U NB 0 0] 58)):=(Ext.rfl' w).alloc _;have Ba:(w.alloc (Z #[U NB 0 0] 58)).heap.size=w.heap.size+1:=Z2 _ _;have h1:(w.alloc (Z #[U NB 0 0] 58)).heap[w.heap.size]? =I (Z #[U NB 0 0] 58):=by rw[Z3,YZ rfl]
 generalize w.alloc (Z #[U NB 0 0] 58)=z at Af Ba h1⊢;have C9:∀(W w':NL),Ext z W->BelowX z.heap.size w.heap.size W w'->Ext w w':=λW w' h h'=>h'.ext (Af.trans h) OA OA
 refine wpIn_rangeFunc_ownH rfl OA (gf:=103) (lb:= #[J (I sl),J (I X)]) rfl trivial (λ_ w=>by simp[go_sem])
  (encs:=Na) (Kp:=BelowX z.heap.size w.heap.size) (S:=λxs=>xs=apA a b c L l) (Sp:=λpre=>pre<+:apA a b c L l) (N:=(apA a b c L l).length) (w0:=z)
  (λyl d Jx W H a1 _ hY h0=>dO a b c m t n cap L bl kl cl l sl X z.heap.size w.heap.size yl d Jx
    (λpre x W1 hJ hp=>hY pre x W1 hJ (by have:=hp.length_le;simp at this;omega)) W (λpre u u' hu e=>a1 pre u u' NB hu (Uh e) (λr h=>by cases h)) hG A1 hn Gx K4 Ay Ao
    ((H.block _ OA).trans (Af.get h2)) ((H.block _ OA).trans (Af.get h3)) H.size OA OA OA OA
    (λw' hX=>by have e:=C9 W w' ⟨H.size,H.block,H.tape,H.os,H.output⟩ hX;exact⟨hM.ext e,hS.ext e,hI.ext e⟩) h0)
  (λh h'=>h.trans h')
  (λW l o _ _ E _ _=>⟨rfl,rfl,rfl,OD,λk i _=>UC OA⟩)
  (Below.refl _ _) (λ_=>rfl)
  (λpre W=>∃v,W.heap[w.heap.size]? =I (Z #[v] 58)/\OwnAp z.heap.size W v pre/\Ext w W/\z.heap.size<=W.heap.size)
  (λcd pre W=>False)
  ?hI ?Ow ⟨_,h1,VJ _ _ _ _,Af,XA _⟩
  (λx a' W=>∃Bx,z.heap.size<=Bx/\W.heap[Bx]? =I (Z #[x.p,x.q,x.k,x.s] 81)/\a'={tmps:= #[U NB 0 0,.func (.func 103) #[] #[J (I sl),J (I X)],J (I w.heap.size),NQ,U NB 0 0,J (I ⟨Bx,0,NB⟩),.func (.func 103) #[] #[J (I sl),J (I X)],NJ #[x.p,x.q,x.k,x.s],NQ,NQ,NQ,NQ,NQ],defers:=[]})
  ?hAx ?assign ?body ?done ?stop
 case hI=>
  rintro pre W W' M ⟨v,C,f,g3,T⟩ A hr;have Ab:∀k,v.ownBlock=I k->I k≠M:=by
   intro k i e;obtain⟨c,hc⟩:∃c,W.heap[k]? =I (Z c 81):=by
    rcases f.2 with⟨rfl,_⟩|⟨g,cp,a0,rfl,_,O,_⟩
    .cases i
    .cases i;exact⟨a0,O⟩
   obtain⟨_,o,E,Bv⟩:=hr k e.symm;rw[hc]at E;cases E;cases Bv
  refine⟨v,(A.block _ OA (λe=>by have:=(hr _ e.symm).1;omega)).trans C,f.kept A ?_,⟨XC g3.size A.size,λk i=>(A.block k (YS i g3.size) (λe=>by have:=(hr _ e.symm).1;omega)).trans (g3.old k i),A.tape.trans g3.tape,A.os.trans g3.os,A.output.trans g3.output⟩,XC T A.size⟩;cases hv:v.ownBlock with|none=>exact .inl rfl|some k=>exact .inr (Ab k hv)
 case Ow=>
  rintro cd pre W W' M h;exact h.elim
 case hAx=>
  rintro x a' _ W W' M ⟨Bx,C,f,g3⟩ A hr;refine⟨Bx,C,(A.block _ (Z5 f) (λe=>by obtain⟨_,o,E,hc⟩:=hr _ e.symm;rw[f]at E;cases E;cases hc)).trans f,g3⟩
 case assign=>
  rintro yl pre x W K ⟨v,C,f,g3,T⟩ hK;simp only[Na,List.zip_toArray,SR,List.zip_nil_left,List.zip_nil_right,List.foldl_toArray',VU,List.foldl_nil,UG,YP,XW,VM,UJ,UU,Nat.reduceAdd]
  gi_wp2
  refine hK _ _ ((TI _ _).from _) (Oj ((Ext.rfl' W).alloc _) T) ⟨v,((Ext.rfl' W).alloc _).get C,f.alloc _,g3.trans ((Ext.rfl' W).alloc _),by simp only[Z2];omega⟩ ⟨W.heap.size,T,by rw[Z3,YZ rfl],rfl⟩
 case body=>
  rintro yl pre x a' W _ ⟨r,hr⟩ ⟨v,C,f,g3,T⟩ ⟨Bx,_,bX,rfl⟩ _;have q0:=Z0 bX 0;have q1:=Z0 bX 1;have q2:=Z0 bX 2;have q3:=Z0 bX 3;have r0:=Z0 C 0;simp only[YC,YA,YB]at q0 q1 q2 q3 r0
  gi_wp2_with (
   gi_at_builtin
   refine wpListIn_append_own _ rfl _ _ 58 rfl z.heap.size 81 Tryz.t81 _ 4 32 u35 i46 t46z t46s t46b rfl OC _ _ _ rfl (f.alloc _) W.heap.size 1 1 (apC x) rfl rfl (iZ _ _ _ _ _ _) (by intro u hu;simp only[apC,XG,XO,UE]at hu;rcases hu with rfl|rfl|rfl|rfl<;>rfl) (by simp[maxLen];omega) OA (by simp only[Z2];omega) ?_;intro v' w3 Ae A6 _;obtain⟨g',cp',rfl,_,_⟩:=XT Ae OA;have F:(W.alloc (Z #[x.p,x.q,x.k,x.s] 81)).grownBy w3 v.ownBlock:=A6;have V:w3.heap[w.heap.size]? =I (Z #[v] 58):=Vx F (λe=>by have:=((f.alloc (Z #[x.p,x.q,x.k,x.s] 81)).lt _ e.symm).1;omega) (((Ext.rfl' W).alloc _).get C);have r3:=Z0 V 0;have f3:=Z8 V 0;have Ad:Ext z w3\/True:= .inr trivial;simp only[YC,YA]at r3)
  have Bv:∀(j:Nat)(o:Obj),v.ownBlock=I j->(W.alloc (Z #[x.p,x.q,x.k,x.s] 81)).heap[j]? =I o->o.isCells=NC:=by
   intro j o hj E;rcases(f.alloc (Z #[x.p,x.q,x.k,x.s] 81)).2 with⟨rfl,_⟩|⟨g,cp,a0,rfl,_,O,_⟩
   .cases hj
   .cases hj;rw[O]at E;cases E;rfl
  have Am:∀k,v.ownBlock=I k->z.heap.size<=k:=λk i=>(f.lt k i).1
  have Y:=VT w3 w.heap.size (U (I g') (pre.length+1) cp')
  refine⟨(((TI _ _).trans (TW F Bv)).trans (VO _ _ _)).from _,
   ⟨Y.os.trans F.os,Y.tape.trans F.tape,Y.output.trans F.output,by rw[Y.size];exact XC OD F.size,λk i hn=> ?_⟩,
   ⟨_,Zb V _,by simpa[OwnAp]using XK Ae (a:=⟨w.heap.size,0,NB⟩) (by simp only;omega) _,((g3.alloc _).grown F (λk i=>by have:=Am k i;omega)).setCell _ _ (XA _),by rw[Y.size];exact XC T (XC OD F.size)⟩⟩
  exact(Y.block k hn).trans ((F.block k (by simp only[Z2];omega) (λe=>by have:=Am k e.symm;omega)).trans (((Ext.rfl' W).alloc _).old k OA))
 case done=>
  rintro D xs W hD rfl ⟨v,C,f,g3,T⟩ hK;have q0:=Z0 C 0;simp only[YC,YA,YB]at q0
  gi_wp2
  refine⟨OD,.inl ⟨_,_,rfl,run_takeDeferred hK,?_⟩⟩;exact⟨_,RR rfl _ _ _,v,rfl,WX (ownsRow_putObj f _ hK rfl) OA,Dp g3 OA⟩
 case stop=>
  rintro D cd pre W hD hp h hK;exact h.elim
def iG(a b c m:Int)(d:Option NP)(n cap:Nat)(L:List Sf)(bl:Option NP)(f cl:Nat)(l:List Int)(i h:Nat)(w:NL)
 (K:Good a b c L)(z:L.length=n)(M:n<=20)(u:l.length=f)(E:f<=cl)(A:f<=100)(V:∀p∈l,0<=p/\p<n)
 (t:Meas w)(O:RawA w d L)(F:RawI w bl l)
 (j:w.heap[h]? =I (Z #[a,b,c,m,U d n cap] 117))(H:w.heap[i]? =I (Z #[U bl f cl] 57)):
 NW prog 57 #[.func (.func 103) #[] #[J (I i),J (I h)]] w λe w'=>∃v,e= NK v/\OwnAp w.heap.size w' v (apA a b c L l)/\Ext w w':=by
 have C:=jt a b c m d n cap L bl f cl l i h w K z M u E A V t O F j H;go_enter fk Tryz.func57,Tryz.ntmps57
 go_wp2_with (
  go_at_call 102;refine C.mono ?_;rintro e w2 ⟨v,rfl,T,C⟩)
 go_ret;exact⟨v,rfl,T,C⟩
def Oq(a b c m:Int)(L:List Sf)(l:List Int):List Ap:=if Zo a b c m L l=0 then apA a b c L l else[]
def qL(a b c m:Int)(d:Option NP)(n cap:Nat)(L:List Sf)(bl:Option NP)(k cl:Nat)(l:List Int)(w:NL)(j:L.length=n)(K:n<=20)(E:l.length=k)(V:k<=cl)(F:k<=100)(C:Meas w)(O:RawA w d L)(H:RawI w bl l):
 NW prog 22 #[NJ #[a,b,c,m,U d n cap],U bl k cl] w λe w'=>∃v,e= NK (.tuple #[v,NE NF (Zo a b c m L l)])/\OwnAp w.heap.size w' v (Oq a b c m L l)/\Ext w w':=by
 have i:=λW f=>J7 a b c m d n cap L bl k cl l W j K E F (C.ext f) (O.ext f) (H.ext f)
 by_cases h:Zo a b c m L l=0
 .obtain⟨hG,Ao,_⟩:=IM h;have M:=λW f u t=>iG a b c m d n cap L bl k cl l u t W hG j K E V F (by rw[<-j];exact Ao) (C.ext f) (O.ext f) (H.ext f)
  have t:Oq a b c m L l=apA a b c L l:=YZ h;rw[h]at i⊢;rw[t];generalize apA a b c L l=A at M⊢;go_enter fk Tryz.func22,Tryz.ntmps22
  go_wp2_with (first
   |(go_at_call 55;refine(i _ OF).r λw2 z=> ?_
     have A:Ext w w2:=Ext.trans OF z)
   |(go_at_call 58;refine(cL _ _ _ _ _ _ _ _ _ _ _).r λw3 f=> ?_
     have u:Ext w w3:=(by rw[f];exact OF);have X:w3.heap[w2.heap.size+1]? =I (Z #[a,b,c,m,U d n cap] 117):=by
      rw[f];simp only[Z3,Z2];rw[XB OA,YZ trivial]
     have T:w3.heap[w2.heap.size+1+1]? =I (Z #[U bl k cl] 57):=by
      rw[f];simp only[Z3,Z2];rw[YZ trivial]
     clear f)
   |(go_at_call 57;refine(M _ u _ _ X T).mono ?_;rintro e w4 ⟨v,rfl,M,f⟩))
  go_ret2;exact⟨v,rfl,WX M u.size,u.trans f⟩
 .have t:Oq a b c m L l=[]:=XB h;have u:(Zo a b c m L l !=0)=NC:=by simpa using h
  rw[t];generalize Zo a b c m L l=f at i u⊢;go_enter fk Tryz.func22,Tryz.ntmps22
  go_wp2_with (
   go_at_call 55;refine(i _ OF).r λw2 z=> ?_
   have A:Ext w w2:=Ext.trans OF z)
  go_ret2;exact⟨_,rfl,VJ _ _ _ _,A.alloc _⟩
end
def OwnI.form{b:Nat}{w:NL}{v:NM}{l:List Int}(h:OwnI b w v l)(d:0<l.length):∃g cap,v= U (I ⟨g,0,NB⟩) l.length cap/\b<=g/\g<w.heap.size:=XT h d
def OwnI.raw{b:Nat}(h:OwnI b w (U (I g) n cap) l):RawI w (I g) l:=by
 intro i x d;refine⟨g,0,rfl,(h.lt g rfl).2,?_⟩;have:=h.cells (g:=g) rfl i (NE NF x) (by rw[List.getElem?_map,d];rfl);rw[ZU]at this;rw[VD];exact this
def OwnI.le{b:Nat}(h:OwnI b w v l)(d:b'<=b):OwnI b' w v l:=WX h d
def aS(g n cap:Nat)(l:List Int)(w:NL)(i:l.length=n)(H:0<n)(M:n<=100)(O:n<=cap)(L:g<w.heap.size)(F:∀(j:Nat) u,(l.map (Value.int NF))[j]? =I u->w.cell? ⟨g,j,NB⟩=I u):
 NW prog 60 #[U (I g) n cap] w λe w'=>∃g' d,e= NK (U (I ⟨g',0,NB⟩) n d)/\OwnI w.heap.size w' (U (I ⟨g',0,NB⟩) n d) l/\Ext w w':=by
 have K:∀w,(binOp .eql 57 (U (I g) n cap) (U NB 0 0)).run prog w= .ok (.bool ND) w:=λw=>by
  simp[go_sem,binOp,run_equal_slice_nil w 57 3 _ n cap u27]
 have t:∀(j:Nat) u,(l.map (Value.int NF))[j]? =I u->(w.alloc (Z #[] 3)).cell? ((⟨g,0,NB⟩:NP).add j)=I u:=by
  intro j u h;have e:(⟨g,0,NB⟩:NP).add j=⟨g,j,NB⟩:=by rw[ZU]
  rw[e];exact((Ext.rfl' w).alloc _).cellS (F j u h)
 go_enter fk Tryz.func60,Tryz.ntmps60
 go_wp2_with (
  at_builtin
  refine UB _ rfl _ _ _ rfl w.heap.size 3 Tryz.t3 (NE NF 0) 1 8 u27 i3 t3z t3s t3b rfl OA _ 0 [] rfl (OU w w.heap.size 3 #[] 0 w.heap.size rfl (XA _) rfl OD) g n cap (l.map (Value.int NF)) rfl (by simp[i]) t (by intro u h;obtain⟨x,_,rfl⟩:=VW.1 h;rfl) (by simp[maxLen];omega) OA OD ?_;intro v' w3 f E _;replace f:w3.ownsRow w.heap.size 3 1 v' n (l.map (Value.int NF)):=by simpa using f
  obtain⟨g',cp',rfl,_,_⟩:=XT f OA;have C:(w.alloc (Z #[] 3)).grownBy w3 (I w.heap.size):=E;have A:Ext w w3:=((Ext.rfl' w).alloc _).grown C (λk z=>by cases z;exact XA _))
 go_ret;exact⟨g',cp',rfl,by subst i;exact f,A⟩
def JQ(i:Option NP)(f t:Nat)(j:Option NP)(d u:Nat)(w:NL):
 NW prog 107 #[U i f t,U j d u] w (OJ (if f<d then U j d u else U i f t) w):=by
 by_cases h:f<d
 .rw[YZ h];go_enter fk Tryz.func107,Tryz.ntmps107;go_wp2;go_ret;exact⟨rfl,rfl⟩
 .rw[XB h];go_enter fk Tryz.func107,Tryz.ntmps107;go_wp2;go_ret;exact⟨rfl,rfl⟩
def FL(w:NL){ops:Array Oper}{rest:List Oper}{o:Oper}{a:Act}{Q:Exit->Act->NL->Prop}
 (K:o.guard=NB)(s x:Operand)(t:NT)(A4:o.op=Op.call {callee:=Callee.builtin Builtin.append,args:= #[s,x],argTypes:= #[t,t]})
 (E:Nat)(e:NT)(i:TypeInfo)(z:NM)(d A:Nat)(h1:P.underlying t=I (.slice e))(V:P.info? e=I i)(h3:i.zero=I z)(Y:i.size=d)(h5:i.bytes=A)(h6:z.cells.size=d)(h7:0<d)
 (v:NM)(k:Nat)(xs:List NM)(hs:a.eval s=v)(O:w.ownsRow E e d v k xs)(L:NP)(m c:Nat)(f:List NM)(hx:a.eval x= U (I L) m c)(hn:f.length=m*d)
 (hc:∀j u,f[j]? =I u->w.cell? (L.add j)=I u)(Uk:∀u∈f,u.oneCell'=NC)(hm:0<m)(b1:k+m<=maxLen)(b2:(k+m)*A<=140737488355328)(b3:E<=w.heap.size)
 (hK:∀g' C w',w'.ownsRow E e d (U (I ⟨g',0,NB⟩) (k+m) C) (k+m) (xs++f)->w.grownBy w' v.ownBlock->w'.ownsRow E e d v k xs->(v= .slice (I ⟨g',0,NB⟩) k C\/w.heap.size<=g')->
   wpList P ops Q rest (a.put o.dst (U (I g') (k+m) C)) w'):
 wpList P ops Q (o::rest) a w:=by
 have Ew:∀(w':NL),w.grownBy w' NB->w.grownBy w' v.ownBlock:=λw' h=>⟨h.os,h.tape,h.output,h.size,λb H _=>h.block b H (λe=>by cases e)⟩
 have Cs:∀(v':NM)(w':NL),w'.ownsRow w.heap.size e d v' (k+m) (xs++f)->w.grownBy w' NB->wpList P ops Q rest (a.put o.dst v') w':=by
  intro v' w' M K;obtain⟨g',C,rfl,H,_⟩:=XT M OA;exact hK g' C w' (WX M b3) (Ew w' K) (O.kept K (by cases h:v.ownBlock with|none=>exact .inl rfl|some q=>exact .inr OD)) (.inr H)
 have T:=O.1;rcases O.2 with⟨rfl,rfl⟩|⟨g,cap,_,rfl,a0,_,K4,Ms,_,_⟩
 .exact SN w K s x t A4 e i z d A h1 V h3 Y h5 h6 h7 NB 0 0 xs hs (λ_=>⟨rfl,rfl⟩) T (λb H=>by cases H) L m c f hx hn hc Uk OA b1 b2 Cs
 .by_cases hr:k+m<=cap
  .refine wpList_append_fits w K s x t A4 E e i d h1 V Y g k cap xs hs O L m c f hx hn hc Uk hr ?_;intro w' M X;refine hK g cap w' M X ⟨T,.inr ?_⟩ (.inl rfl);rcases M.2 with⟨h,_⟩|⟨_,_,F,he,_,Bl,_,_,C6,Pr⟩
   .cases h
   .cases he;refine⟨g,cap,F,rfl,a0,Bl,K4,Ms,C6,?_⟩;have h8:(F.toList.take ((k+m)*d)).take (k*d)=xs:=(by rw[Pr];rw[<-T];exact List.take_left);rw[List.take_take,TO (SG _ (Nat.le_add_right _ _))]at h8;exact h8
  .exact SN w K s x t A4 e i z d A h1 V h3 Y h5 h6 h7 (I g) k cap xs hs (λh=>by cases h) T (λb H j u hj=>by cases H;exact O.cells (g:=g) rfl j u hj) L m c f hx hn hc Uk OA b1 b2 Cs
def u57:prog.underlying 61=I (.slice 57):=(underlying_eq 61).trans Tryz.underlying61
def i27:prog.info? 57=I Tryz.t57:=OB
def t27z:Tryz.t57.zero=I (U NB 0 0):=OB
def t27s:Tryz.t57.size=1:=OB
def t27b:Tryz.t57.bytes=24:=OB
def ZT{d f:Nat}(h:w.ownsRow d e f v n xs)(i:Ext w w'):w'.ownsRow d e f v n xs:=
 h.kept (Uh i) (by cases hv:v.ownBlock with|none=>exact .inl rfl|some k=>exact .inr OD)
def OwnI.ext{b:Nat}(h:OwnI b w v l)(d:Ext w w'):OwnI b w' v l:=ZT h d
def MO{b:Nat}(h:W.ownsRow b e s v n xs)(j:W.ownsRow b' e' s' v' n' xs')(i:e≠e'):v.ownBlock=NB\/v.ownBlock≠v'.ownBlock:=by
 rcases h.2 with⟨rfl,_⟩|⟨g,_,_,rfl,_,t,_⟩
 .exact .inl rfl
 .right
  intro f;rcases j.2 with⟨rfl,_⟩|⟨_,_,_,rfl,_,d,_⟩
  .cases f
  .cases f;rw[t]at d;cases d;exact i rfl
def Each(R:NM->List Int->Prop):List NM->List (List Int)->Prop
 |[],[]=>True
 |u::us,s::ss=>R u s/\Each R us ss
 |_,_=>False
def Each.append{R:NM->List Int->Prop}:∀{i:List NM}{f:List (List Int)}{vs:List NM}{d:List (List Int)},Each R i f->Each R vs d->Each R (i++vs) (f++d)
 |[],[],_,_,_,h=>h
 |_::_,_::_,_,_,⟨h1,h2⟩,h=>⟨h1,Each.append h2 h⟩
def Each.mono{R S:NM->List Int->Prop}:∀{d:List NM}{f:List (List Int)},Each R d f->(∀u s,R u s->S u s)->Each S d f
 |[],[],_,_=>trivial
 |_::_,_::_,⟨h1,h2⟩,h=>⟨h _ _ h1,Each.mono h2 h⟩
def Each.length{R:NM->List Int->Prop}:∀{f:List NM}{d:List (List Int)},Each R f d->f.length=d.length
 |[],[],_=>rfl
 |_::_,_::_,⟨_,h⟩=>by simp[Each.length h]
def Each.get{R:NM->List Int->Prop}:∀{f:List NM}{d:List (List Int)},Each R f d->∀(i:Nat)(s:List Int),d[i]? =I s->∃u,f[i]? =I u/\R u s
 |[],[],_,i,s,h=>by simp at h
 |u::f,t::d,⟨h1,h2⟩,i,s,h=>by
  cases i with
  |zero=>simp at h;subst h;exact⟨u,OD,h1⟩
  |succ i=>simpa using Each.get h2 i s (by simpa using h)
def Zt(a b c:Int)(L:List Sf)(n:Nat)(out:Nat->Bool):Nat->List Int->Nat->List (List Int)
 |0,l,_=>[l]
 |f+1,l,i=>(List.range' i (n - i)).flatMap fun(k:Nat)=>if out k=ND/\Zr (apA a b c L (l++[(k:Int)]))=1 then Zt a b c L n out f (l++[(k:Int)]) (k+1)else[]
def fY{a:Act}{K:Act->NL->Prop}{Q:Exit->Act->NL->Prop}{E:Prop}(i:o.guard=NB)(f:FuncId)(d:Array NM)
 (t:(execOp a.eval o).run P w= .ok (.enter f d) w)(j:NW P f d w λe w'=>∃v,e= NK v/\K (a.put o.dst v) w'):
 if Go.Region.wanted o (yielded ops a.tmps)=NC then Oper.wp P o a w K Q else E:=by
 have h:Go.Region.wanted o (yielded ops a.tmps)=NC:=by simp[Go.Region.wanted,i]
 rw[YZ h];unfold Oper.wp;rw[t,Oper.upon_enter];refine j.mono ?_;rintro e _ ⟨v,rfl,h⟩;exact h
structure Ctx(a b c m:Int)(base:Option NP)(n cap:Nat)(L:List Sf)(out:Nat->Bool)(B sb ob wb fb:Nat)(W:NL):Prop where
 s:W.heap[sb]? =I (Z #[a,b,c,m,U base n cap] 117)
 wo:∀i,i<9->W.cell? ⟨wb,i,NB⟩=I (.bool (out i))
 fn:W.heap[fb]? =I (Z #[.func (.func 137) #[] #[J (I sb),J (I ob),J (I wb),J (I fb)]] 234)
 keep:∀W',BelowX B ob W W'->Meas W'/\RawA W' base L
 sz:B<=W.heap.size
 lt:sb<B/\ob<B/\wb<B/\fb<B/\sb≠ob/\wb≠ob/\fb≠ob
def Ctx.step{d:Option NP}{L:List Sf}(h:Ctx a b c m d n cap L out B sb ob wb fb W)(f:BelowX B ob W W'):Ctx a b c m d n cap L out B sb ob wb fb W':=
 ⟨(f.block _ h.lt.1 h.lt.2.2.2.2.1).trans h.s,λi hi=>(f.cell (p:=⟨wb,i,NB⟩) h.lt.2.2.1 h.lt.2.2.2.2.2.1).trans (h.wo i hi),(f.block _ h.lt.2.2.2.1 h.lt.2.2.2.2.2.2).trans h.fn,λj i=>h.keep j (f.trans i),XC h.sz f.size,h.lt⟩
structure Left(B ob:Nat)(W:NL)(v:NM)(l:List Int)(vo:NM)(vs:List NM)(S:List (List Int))(W':NL)(vo':NM)(vs2:List NM):Prop where
 out:W'.heap[ob]? =I (Z #[vo'] 61)
 row:W'.ownsRow B 57 1 vo' (vs++vs2).length (vs++vs2)
 new:Each (λu s=>OwnI W.heap.size W' u s) vs2 S
 cur:OwnI B W' v l
 below:BelowX B ob W W'
 old:∀k,B<=k->k<W.heap.size->I k≠v.ownBlock->I k≠vo.ownBlock->W'.heap[k]? =W.heap[k]?
 at':vo'.ownBlock=vo.ownBlock\/∀k,vo'.ownBlock=I k->W.heap.size<=k
def mj{s:List Int}(hB:B<=W.heap.size)(H:ob<B)(O:W.heap[ob]? =I (Z #[vo] 61))(z:W.ownsRow B 57 1 vo vs.length vs)(A:OwnI B W v l)
 (X:Ext W w2)(F:OwnI W.heap.size w2 (U (I g') n' cp') s)(V:w3.ownsRow B 57 1 (U (I g3) (vs.length+1) cap3) (vs.length+1) (vs++[U (I g') n' cp']))
 (f:(w2.alloc (Z #[U (I g') n' cp'] 57)).grownBy w3 vo.ownBlock)(C:vo.ownBlock=I g3\/g3=(w2.alloc (Z #[U (I g') n' cp'] 57)).heap.size):
 Left B ob W v l vo vs [s] (w3.setCell ob (U (I g3) (vs.length+1) cap3)) (U (I g3) (vs.length+1) cap3) [U (I g') n' cp']:=by
 have d:Ext W (w2.alloc (Z #[U (I g') n' cp'] 57)):=X.alloc _;have u:w2.heap.size<=(w2.alloc (Z #[U (I g') n' cp'] 57)).heap.size:=OD
 have E:=F.alloc (Z #[U (I g') n' cp'] 57);generalize w2.alloc (Z #[U (I g') n' cp'] 57)=w4 at d u f E C;have L:w3.heap[ob]? =I (Z #[vo] 61):=Vx f (λe=>by have:=(z.lt _ e.symm).1;omega) (d.get O);have i:=VT w3 ob (U (I g3) (vs.length+1) cap3);have t:∀k,vo.ownBlock=I k->B<=k/\k<W.heap.size:=λk j=>z.lt k j
 refine⟨Zb L _,by simpa using ownsRow_setCell_below V (a:=⟨ob,0,NB⟩) H _,⟨ownsRow_setCell_below (E.kept f ?_) (a:=⟨ob,0,NB⟩) (by simp only;omega) _,trivial⟩,ownsRow_setCell_below ((ZT A d).kept f (MO A z OC)) (a:=⟨ob,0,NB⟩) H _,
  ⟨i.os.trans (f.os.trans d.os),i.tape.trans (f.tape.trans d.tape),i.output.trans (f.output.trans d.output),by rw[i.size];exact XC d.size f.size,λk j T=> ?_⟩,λk j M _ K=> ?_,?_⟩
 .right
  intro e;have Y:=(t g' e.symm).2;have h6:=(F.lt g' rfl).1;omega
 .exact(i.block k T).trans ((f.block k (by have:=d.size;omega) (λe=>by have:=(t k e.symm).1;omega)).trans (d.old k OA))
 .exact(i.block k (by simp only;omega)).trans ((f.block k (by have:=d.size;omega) K).trans (d.old k M))
 .rcases C with h|h
  .exact .inl h.symm
  .right
   intro k j;cases j;rw[h];exact d.size
def jF(a b c m:Int)(i:Option NP)(n cap:Nat)(L:List Sf)(out:Nat->Bool)(B sb ob wb fb:Nat)(d:Nat)(W:NL)(v vo:NM)(l:List Int)(vs:List NM)
 (t:Ctx a b c m i n cap L out B sb ob wb fb W)(hm:m=(l.length:Int))(T:0<l.length)(He:l.length<=9)(Fp:vs.length<=100000)(z:W.heap[ob]? =I (Z #[vo] 61))(F:W.ownsRow B 57 1 vo vs.length vs)(C:OwnI B W v l):
 NW prog 137 #[v,d,J (I sb),J (I ob),J (I wb),J (I fb)] W λe W'=>(∃u,e= NK u)/\∃vo' vs2,Left B ob W v l vo vs [l] W' vo' vs2:=by
 obtain⟨g,H,rfl,_,Hh⟩:=C.form T;have s3:=Z0 t.s 3;have V:=Z0 z 0;simp only[YC,YA,YB]at s3 V;have A5:=t.lt;have X:l.length<=H:=by
  rcases C.2 with⟨h,_⟩|⟨_,_,_,he,_,_,h,_⟩
  .cases h
  .cases he;exact h
 have Nr:∀E,Ext W E->_:=λE M=>aS g l.length H l E rfl T OA X (M.lt Hh) (λj u A=>by have:=C.cells (g:=g) rfl j u A;rw[ZU]at this;exact M.cellS this)
 subst hm;go_enter fk Tryz.func137,Tryz.ntmps137;go_wp2
 go_region_law (first
  |(refine fY rfl 60 #[U (I g) l.length H] (by simp[go_sem,execOp]) ((Nr _ (Ext.drew (Ext.rfl' _))).mono ?_);rintro e w2 ⟨g',cp',rfl,Ac,f⟩;refine⟨_,rfl,?_⟩
    have o2:=f.cellS V;have o4:ob<w2.heap.size:=Z5 (f.get z))
  |(refine step_append_lies _ rfl _ _ 61 rfl B 57 Tryz.t57 _ 1 24 u57 i27 t27z t27s t27b rfl OC vo vs.length vs rfl ((ZT F (Ext.trans (Ext.drew (Ext.rfl' _)) f)).alloc _) _ 1 1 [U (I g') l.length cp'] rfl rfl (WU _ _ _) (by intro u A;simp at A;subst A;rfl) OC (by simp[maxLen];omega) OA (by have:=t.sz;have:=f.size;simp at this⊢;omega) _ rfl ?_
    intro g3 cap3 w3 Ae O Y _;have K:w3.heap[ob]? =I (Z #[vo] 61):=Vx O (λe=>by have:=(F.lt _ e.symm).1;omega) (((Ext.rfl' w2).alloc _).get (f.get z));have o3:=Z0 K 0;have f3:=Z8 K 0;simp only[YC,YA]at o3))
 all_goals
  go_wp2;refine VE (results_none rfl _ _ _) rfl ?_;exact⟨⟨_,rfl⟩,_,_,mj (w2:=w2) t.sz A5.2.1 z F C (Ext.trans (Ext.drew (Ext.rfl' _)) f) Ac Ae O Y⟩
def JK{d f:Nat}(h:w.ownsRow d e f v n xs)(z:∀k,v.ownBlock=I k->w'.heap[k]? =w.heap[k]?):w'.ownsRow d e f v n xs:=by
 refine⟨h.1,?_⟩;rcases h.2 with h|⟨g,cap,i,rfl,t,j,u⟩
 .exact .inl h
 .exact .inr ⟨g,cap,i,rfl,t,(z g rfl).trans j,u⟩
def pR{i d k m:Nat}(h:w.ownsRow i e d (U (I g) (k+m) cap) (k+m) (xs++ys))(t:xs.length=k*d):w.ownsRow i e d (U (I g) k cap) k xs:=by
 refine⟨t,.inr ?_⟩;rcases h.2 with⟨h,_⟩|⟨_,_,f,z,F,u,_,C,A,E⟩
 .cases h
 .cases z;refine⟨g,cap,f,rfl,F,u,OA,C,A,?_⟩;have j:(f.toList.take ((k+m)*d)).take (k*d)=xs:=by rw[E];rw[<-t];exact List.take_left
  rw[List.take_take,TO (SG _ (Nat.le_add_right _ _))]at j;exact j
def HQ{S:List (List Int)}{o:Obj}(M:ob<B)(L:B<=W.heap.size)(H:OwnI B W v l)(d:Left B ob W v l vo vs S wr vo' vs2)(i:(wr.alloc o).grownBy w3 v.ownBlock)(K:OwnI B w3 v l):
 Left B ob W v l vo vs S w3 vo' vs2/\BelowX B ob wr w3/\Each (λu s=>OwnI W.heap.size w3 u s/\∀k,u.ownBlock=I k->k<wr.heap.size) vs2 S:=by
 have f:Ext wr (wr.alloc o):=(Ext.rfl' wr).alloc o;have z:∀k,v.ownBlock=I k->B<=k/\k<W.heap.size:=λk j=>H.lt k j
 have E:BelowX B ob wr w3:=⟨i.os,i.tape,i.output,XC f.size i.size,λk j _=>(i.block k (by have:=f.size;have:=d.below.size;omega) (λe=>by have:=(z k e.symm).1;omega)).trans (f.old k (by have:=d.below.size;omega))⟩
 have C:Each (λu s=>OwnI W.heap.size w3 u s/\∀k,u.ownBlock=I k->k<wr.heap.size) vs2 S:=d.new.mono λu s h=>⟨(ZT h f).kept i (by
  cases hu:u.ownBlock with
  |none=>exact .inl rfl
  |some k=>
   right
   intro e;have t:=(h.lt k hu).1;have A:=(z k e.symm).2;omega),λk j=>(h.lt k j).2⟩
 refine⟨⟨(i.block ob (by have:=f.size;have:=d.below.size;omega) (λe=>by have:=(z ob e.symm).1;omega)).trans (f.get d.out),(ZT d.row f).kept i (MO d.row d.cur OC),C.mono λu s h=>h.1,K,d.below.trans E,λk j F t A=> ?_,d.at'⟩,E,C⟩;exact(i.block k (by have:=f.size;have:=d.below.size;omega) t).trans ((f.old k (by have:=d.below.size;omega)).trans (d.old k j F t A))
def CO{S:List (List Int)}(z:B<=W.heap.size)(d:Left B ob W v l vo vs S w3 vo' vs2)(f:Ext w3 w4):Left B ob W v l vo vs S w4 vo' vs2:=
 ⟨f.get d.out,ZT d.row f,d.new.mono λu s h=>ZT h f,ZT d.cur f,d.below.trans (Oj f (XC z d.below.size)),λk h i t j=>(f.old k (by have:=d.below.size;omega)).trans (d.old k h i t j),d.at'⟩
def p5{N:Nat}{S E:List (List Int)}(O:B<=W.heap.size)(L:OwnI B W v l)(T:W.heap.size<=N)(f:Left B ob W v l vo vs S w4 vo' vs2)(H:Each (λu s=>OwnI W.heap.size w4 u s/\∀k,u.ownBlock=I k->k<N) vs2 S)
 (F:v= .slice (I g') l.length cap1\/N<=g')(i:Left B ob w4 (U (I g') (l.length+1) cap1) (l++[p]) vo' (vs++vs2) E w5 vo2 vs3):Left B ob W v l vo vs (S++E) w5 vo2 (vs2++vs3):=by
 have t:∀k,v.ownBlock=I k->B<=k/\k<W.heap.size:=λk d=>L.lt k d
 have M:=f.below.size;have A:∀k,k<N->(∀q,v.ownBlock=I q->k≠q)->I k≠(Value.slice (I g') (l.length+1) cap1).ownBlock:=by
  intro k d j e;replace e:I k=I g':=e;cases e;rcases F with rfl|h
  .exact j _ rfl rfl
  .omega
 refine⟨i.out,by have:=i.row;rwa [RV]at this,Each.append (H.mono λu s h=>JK h.1 λk d=> ?_) (i.new.mono λu s h=>WX h M),?_,f.below.trans i.below,λk d K C z=> ?_,?_⟩
 .have hu:=h.1.lt k d;refine i.old k OA hu.2 (A k (h.2 k d) λq j e=>by have:=(t q j).2;omega) ?_;rcases MO h.1 f.row OC with h5|h5
  .rw[d]at h5;cases h5
  .rw[<-d];exact h5
 .rcases F with rfl|h
  .refine pR (m:=1) (ys:=[NE NF p]) ?_ OD;have:=i.cur;unfold OwnI at this;simpa using this
  .refine JK f.cur λk d=> ?_
   refine i.old k (t k d).1 (by have:=(t k d).2;omega) ?_ ?_
   .intro e;replace e:I k=I g':=e;cases e;have:=(t _ d).2;omega
   .rcases MO f.cur f.row OC with h5|h5
    .rw[d]at h5;cases h5
    .rw[<-d];exact h5
 .refine(i.old k d OA (A k OA λq j e=>C (by rw[j,e])) ?_).trans (f.old k d K C z);rcases f.at' with h5|h5
  .rw[h5];exact z
  .intro e;have:=h5 k e.symm;omega
 .rcases i.at' with h5|h5
  .rw[h5];exact f.at'
  .right;intro k d;have:=h5 k d;omega
end Go.Proofs.Tryq
namespace Go.Proofs.Tryp
open Go.Shelf Go.Proofs Go.Proofs.Tryq
attribute [local instance] k3
abbrev str(l:List UInt8):NM:= .string ⟨l.toArray⟩
structure Pow(w:NL):Prop where
 lt:4<w.heap.size
 tab:Lib.TabIs Tryp.prog w "internal/strconv.uint64pow10" .u64 Lib.pow10Tab
def Pow.ext(h:Pow w)(e:Ext w w'):Pow w':=⟨YS h.lt e.size,by
 have d:=h.tab;unfold Lib.TabIs World.var? at d⊢;have f:Tryp.prog.globalNamed "internal/strconv.uint64pow10" =I 4:=OB
 rw[f]at d⊢;simp only[SK]at d⊢;rw[e.old 4 h.lt];exact d⟩
def fj(w:NL)(k:Nat)(d:Array Obj):Ext w (Go.Sort.grow (w.drewN k) d):=by
 exact⟨by simp[Go.Sort.grow,World.drewN],λb f=>by simp[Go.Sort.grow,World.drewN,Array.getElem?_append,f],rfl,rfl,rfl⟩
def dU(n:Int)(f: -9223372036854775808<=n)(d:n<=9223372036854775807)(w:NL)(i:Pow w):
 NW Tryp.prog 44 #[n] w (OI (str (Lib.itoa n)) w):=
 (Any.strconv_Itoa lI n f d w i.tab).mono λe w' ⟨h,k,_,e'⟩=>⟨h,by subst e';exact fj _ _ _⟩
def u85:Tryp.prog.underlying 85=I (.slice 9):=(underlying_eq 85).trans Tryz.underlying85
def i9:Tryp.prog.info? 9=I Tryz.t9:=OB
def t9z:Tryz.t9.zero=I (.string ⟨#[]⟩):=OB
def t9s:Tryz.t9.size=1:=OB
def t9b:Tryz.t9.bytes=16:=OB
def Xd(b:Nat)(w:NL)(v:NM)(l:List (List UInt8)):Prop:=w.ownsRow b 9 1 v l.length (l.map str)
def KQ(b d n cap:Nat)(l:List Int)(w:NL)(h:l.length=n)(hb:n<=100)(F:∀(j:Nat)(x:Int),l[j]? =I x->w.cell? ⟨b,d+j,NB⟩=I (NE NF x))(hw:b<w.heap.size)(E:∀x∈l,-9223372036854775808<=x/\x<=9223372036854775807)(C:Pow w):
 NW Tryp.prog 38 #[U (I ⟨b,d,NB⟩) n cap] w λe w'=>∃v,e= NK v/\Xd w.heap.size w' v (l.map Lib.itoa)/\Ext w w':=by
 replace F:Hid (∀(j:Nat)(x:Int),l[j]? =I x->w.cell? ⟨b,d+j,NB⟩=I (NE NF x)):=F;replace E:Hid (∀x∈l,-9223372036854775808<=x/\x<=9223372036854775807):=E;replace h:Hid (l.length=n):=h;go_enter fq Tryz.func38,Tryz.ntmps38;go_wp2;go_loopw [3,8] (λM L wr=>∃i:Nat,i<=n/\L= NE NF i/\Xd w.heap.size wr M ((l.take i).map Lib.itoa)/\Ext w wr) (λ_ L _=>n - (intOf L).toNat)
 case atStart=>exact⟨0,OA,rfl,VJ _ _ _ _,Ext.rfl' w⟩
 case round=>
  rename_i M _;obtain⟨i,hi,rfl,z,f⟩:=hrel;by_cases Ao:i=n
  .subst Ao;go_wp2;go_ret;refine⟨_,rfl,?_,f⟩;rw[show l.take i=l from XX (by have:=h.out;omega)]at z;exact z
  .have A5:(i:Int)<(n:Int):=OA
   obtain⟨x,t⟩:∃x,l[i]? =I x:=⟨_,YH (by have:=h.out;omega)⟩;have c0:=f.cellS (F.out i x t);have T:=E.out x (YQ t);have hit:=λw C=>dU x T.1 T.2 w C
   have Tt:=C.ext f;have H:Hid (l.take (i+1)=l.take i++[x]):=by show _=_;rw[VL,t];rfl
   have A:((l.take i).map Lib.itoa).length=i:=by rw[TH,VN];have:=h.out;omega
   clear t;have Fx:((l.take i).map Lib.itoa).length+1<=maxLen:=by rw[A];simp[maxLen];omega
   have V:(((l.take i).map Lib.itoa).length+1)*16<=140737488355328:=by rw[A];omega
   clear A
   go_wp2_with (first
    |(go_at_call 44;refine(hit _ Tt).r λw2 K=> ?_)
    |(at_builtin
      refine UB _ rfl _ _ _ rfl w.heap.size 9 Tryz.t9 (.string ⟨#[]⟩) 1 16 u85 i9 t9z t9s t9b rfl OA _ _ _ rfl ((ZT z K).alloc _) w2.heap.size 1 1 [str (Lib.itoa x)] rfl rfl (WU _ _ _) (by intro u O;simp at O;subst O;rfl) Fx V (by have:=f.size;have:=K.size;simp;omega) ?_;intro v' w3 Ae A6 _;have Y:Ext w w3:=((f.trans K).alloc _).grown A6 (λk X=>(z.lt k X).1)))
   go_roundw
   case rel=>exact⟨i+1,OA,by push_cast;rfl,by rw[H.out];simpa[Xd]using Ae,Y⟩
   case measure=>simp[intOf];omega
def qR(h:Below w.heap.size w w'):Ext w w':=⟨h.size,h.block,h.tape,h.os,h.output⟩
def rn(b n c:Nat)(l:List (List UInt8))(w:NL)(C:l.length=n)(A:∀(j:Nat)(x:NM),(l.map str)[j]? =I x->w.cell? ⟨b,j,NB⟩=I x)(z:b<w.heap.size)(E:n<=1000)(f:n<=c)
 (i:([32].intercalate l).length<=140737488355328):NW Tryp.prog 80 #[U (I b) n c,.string ⟨#[32]⟩] w (OI (str ([32].intercalate l)) w):=by
 subst C;have e:(l.map λx=>(⟨x.toArray⟩:ByteArray)).map (·.data.toList)=l:=by
  rw[List.map_map];exact List.map_id' l
 have h:=Any.strings_Join lJ lX b 0 c (l.map λx=>(⟨x.toArray⟩:ByteArray)) ⟨#[32]⟩ w (λj x d=>by
  rw[List.getElem?_map]at d;cases hj:l[j]? with
  |none=>rw[hj]at d;cases d
  |some y=>
   rw[hj]at d;obtain rfl:=YT d;rw[VD];exact A j _ (by rw[List.getElem?_map,hj];rfl)) z (by simp;omega) (by simpa using f) (by rw[e];exact i)
 rw[e,TH]at h;exact h.mono λe w' ⟨u,t⟩=>⟨u,qR t⟩
def IN(word:List UInt8)(b n c:Nat)(l:List (List UInt8))(w:NL)(f:l.length=n)(h0:0<n)(A:∀(j:Nat)(x:NM),(l.map str)[j]? =I x->w.cell? ⟨b,j,NB⟩=I x)(hb:b<w.heap.size)(hN:n<=100)
 (d:([32].intercalate (word::l)).length<=140737488355328):NW Tryp.prog 37 #[str word,U (I b) n c] w (OI (str ([32].intercalate (word::l)++[10])) w):=by
 replace A:Hid (∀(j:Nat)(x:NM),(l.map str)[j]? =I x->w.cell? ⟨b,j,NB⟩=I x):=A;replace f:Hid (l.length=n):=f;replace d:Hid (([32].intercalate (word::l)).length<=140737488355328):=d;have Ac:=OU w w.heap.size 9 #[str word] 1 _ rfl (XA _) rfl OC;have K:(l.map str).length=n*1:=by have:=f.out;simp;omega
 have t:∀(j:Nat)(x:NM),(l.map str)[j]? =I x->(w.alloc (Z #[str word] 9)).cell? ((⟨b,0,NB⟩:NP).add j)=I x:=λj x z=>by
  rw[ZU];exact((Ext.rfl' w).alloc _).cellS (A.out j x z)
 go_enter fq Tryz.func37,Tryz.ntmps37
 go_wp2_with (first
  |(at_builtin
    refine UB _ rfl _ _ _ rfl w.heap.size 9 Tryz.t9 (.string ⟨#[]⟩) 1 16 u85 i9 t9z t9s t9b rfl OA _ _ _ rfl Ac b n c (l.map str) rfl K t (by intro u E;simp at E;obtain⟨y,_,rfl⟩:=E;rfl) (by simp[maxLen];omega) OA OD ?_;intro v' w3 i C _;obtain⟨g,H,rfl,_,M⟩:=XT i OA;have O:Ext w w3:=((Ext.rfl' w).alloc _).grown C (λk L=>by obtain rfl:=YT L;exact XA _);have T:1+n<=H:=by
     rcases i.2 with⟨h,_⟩|⟨_,_,_,X,_,_,h,_⟩
     .cases h
     .cases X;exact h
    have F:∀(j:Nat)(x:NM),((word::l).map str)[j]? =I x->w3.cell? ⟨g,j,NB⟩=I x:=λj x z=>by
     have:=i.cells (g:=g) rfl j x z
     rwa [ZU]at this
    have Y:=rn g (1+n) H (word::l) w3 (by have:=f.out;simp;omega) F M OA T d.out;clear F i C)
  |(go_at_call 80;refine Y.r λw4 V=> ?_))
 .rename_i h;have:=d.out;omega
 .go_ret;refine⟨?_,O.trans V⟩;rw[show(⟨#[10]⟩:ByteArray)=⟨[10].toArray⟩from rfl,VH];rfl
end Go.Proofs.Tryp
