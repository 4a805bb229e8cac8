import Derived.Test.YthahddndgbpooaaGreatDoorNkA
import Derived.Test.YthahddndgbpooaaGreatDoorNk21
import Derived.ArgAppend
import Derived.Deep.AppendLies
import Derived.Laws.Cover3
import Derived.LoopIn
import Derived.LoopNIn
import Derived.OwnWalk
import Derived.OwnWalkIn
import Derived.RangeFuncBound
import Derived.RangeFuncCalls
import Derived.RangeFuncLeaves
import Derived.RangeFuncNested
import Derived.TacticsInMore
import Derived.WalkMore
set_option linter.all false
set_option maxRecDepth 100000
set_option maxHeartbeats 4000000
open Go Go.Nk Go.RowKit
variable {a b c m p q x y:Int}{l:List Int}{xs:List Value}{b' base' cap g n n₀ s sb:Nat}{P:Program}{e:TypeId}{v:Value}{W w w':World}
namespace Go.Proofs.Tryq
section
attribute [local go_sem] Oper.semAt_some
structure Ap where
 p:Int
 q:Int
 k:Int
 s:Int
def apE(a b c:Int)(L:List Sf)(p q:Int)(k:Nat):List Ap:=match L[p.toNat]?,L[q.toNat]? with
 |some x,some y=>if Z1m a b c x y k=1 then[] else[⟨p,q,k,Z1m a b c x y k⟩]
 |_,_=>[]
def apP(a b c:Int)(L:List Sf)(p q:Int):List Ap:=apE a b c L p q 0++(apE a b c L p q 1++apE a b c L p q 2)
def apR(a b c:Int)(L:List Sf)(p:Int)(t:List Int):List Ap:=t.flatMap (apP a b c L p)
def apA(a b c:Int)(L:List Sf):List Int->List Ap
 |[]=>[]
 |p::t=>apR a b c L p t++apA a b c L t
def Zdt(x:Ap):Array Value:= #[.agg #[x.p,x.q,x.k,x.s]]
theorem Z3I(h:Ext w w'):w.grownBy w' none:=⟨h.os,h.tape,h.output,h.size,λk hk _=>h.old k hk⟩
theorem Z3J{c:Code}{Q:Exit->Act->World->Prop}{a:Act}(h:c.wpIn Fence.wide n P (Exit.noGoto Q) a w):c.scope.wpIn Fence.wide n P Q a w:=wpIn_wide.2 (wp_scope_straight (wpIn_wide.1 h))
structure BelowX(B sb:Nat)(w w':World):Prop where
 os:w'.os=w.os
 tape:w'.tape=w.tape
 output:w'.output=w.output
 size:w.heap.size<=w'.heap.size
 block:∀k,k<B->k≠sb->w'.heap[k]? =w.heap[k]?
theorem BelowX.refl(B sb:Nat)(w:World):BelowX B sb w w:=⟨rfl,rfl,rfl,XB _,λ_ _ _=>rfl⟩
theorem BelowX.trans{B sb:Nat}{a b c:World}(h:BelowX B sb a b)(k:BelowX B sb b c):BelowX B sb a c:=
 ⟨k.os.trans h.os,k.tape.trans h.tape,k.output.trans h.output,XD h.size k.size,λi hi hn=>(k.block i hi hn).trans (h.block i hi hn)⟩
theorem BelowX.cell{B sb:Nat}{w w':World}(h:BelowX B sb w w'){p:Addr}(hp:p.block<B)(hn:p.block≠sb):w'.cell? p=w.cell? p:=by simp only[World.cell?,h.block _ hp hn]
theorem Z15(h:Ext w w')(hn:n₀<=w.heap.size):BelowX n₀ sb w w':=⟨h.os,h.tape,h.output,h.size,λk hk _=>h.old k (by omega)⟩
theorem Z7D(a b c:Int)(L:List Sf){l:List Int}{i:Nat}{p:Int}(h:l[i]? =some p):apA a b c L (l.drop i)=apR a b c L p (l.drop (i+1))++apA a b c L (l.drop (i+1)):=by rw[Z0b h];rfl
theorem Z7E(a b c:Int)(L:List Sf)(p:Int){t:List Int}{j:Nat}{q:Int}(h:t[j]? =some q):apR a b c L p (t.drop j)=apP a b c L p q++apR a b c L p (t.drop (j+1)):=by rw[Z0b h];rfl
structure Good(a b c:Int)(L:List Sf):Prop where
 ha:0<=a/\a<=9999
 hb:0<=b/\b<=9999
 hc:0<=c/\c<=9999
 ok:∀x∈L,Z8b x=true
theorem Good.ins{L:List Sf}(h:Good a b c L){x:Sf}(hx:x∈L):ZF (spA x 0)=true/\ZF (spA x 1)=true/\ZF (spA x 2)=true:=by
 have:=h.ok x hx;simp only[Z8b,YG] at this;exact⟨this.1.1,this.1.2,this.2⟩
theorem ZbR(a b c m:Int)(base:Option Addr)(n cap:Nat)(L:List Sf)(x y:Sf)(i j k:Nat)(hk:k<3)(w:World)(hG:Good a b c L)(hM:Meas w)(hS:RawA w base L)(A1:L.length=n)(hn:n<=20)
 (hx:L[i]? =some x)(hy:L[j]? =some y):
 Calls prog 104 #[.agg #[a,b,c,m,.slice base n cap],i,j,k] w λe w'=>e= .returned (.int .i64 (Z1m a b c x y k))/\Ext w w':=by
 obtain⟨b1,o1,e1,B9,sx,_⟩:=hS i x hx;obtain⟨b2,o2,e2,As,sy,_⟩:=hS j y hy;subst e1;simp only[XJ,Addr.mk.injEq,and_true] at e2;obtain⟨rfl,rfl⟩:=e2;have hi:=(YI.1 hx).1;have hj:=(YI.1 hy).1;have ix:=hG.ins (YQ hx);have iy:=hG.ins (YQ hy);obtain rfl|rfl|rfl:k=0\/k=1\/k=2:=by omega
 ·exact Zae a b c m b1 o1 n cap x y i j w hM B9 (by omega) (by omega) hn sx sy hG.ha ix.1 iy.1
 ·exact Zaf a b c m b1 o1 n cap x y i j w hM B9 (by omega) (by omega) hn sx sy hG.hb ix.2.1 iy.2.1
 ·exact Zag a b c m b1 o1 n cap x y i j w hM B9 (by omega) (by omega) hn sx sy hG.hc ix.2.2 iy.2.2
theorem Z4f(a b c m:Int)(base:Option Addr)(n cap:Nat)(L:List Sf)(bl:Option Addr)(kl cl:Nat)(l:List Int)(sl ss n₀ sb:Nat)(yl:Nat)(J Jx:List Ap->World->Prop)
 (hY:∀pre x W1,J pre W1->(pre++[x])<+:apA a b c L l->YieldAt Fence.wide 4 prog yl (Zdt x) W1 λe W'=>(e= .returned (.bool true)/\J (pre++[x]) W'/\BelowX n₀ sb W1 W')\/(e= .returned (.bool false)/\Jx (pre++[x]) W'))
 (W:World)(hJ:∀pre w w',J pre w->Ext w w'->J pre w')
 (hG:Good a b c L)(A1:L.length=n)(hn:n<=20)(Fc:l.length=kl)(Ii:kl<=cl)(Az:kl<=100)(Ao:∀p∈l,0<=p/\p<n)
 (hs:W.heap[ss]? =some (.cells #[a,b,c,m,.slice base n cap] 117))(hl:W.heap[sl]? =some (.cells #[.slice bl kl cl] 57))(V4:n₀<=W.heap.size)(hsn:ss<n₀)(Vk:sl<n₀)(Fy:ss≠sb)(Ru:sl≠sb)
 (hK:∀w',BelowX n₀ sb W w'->Meas w'/\RawA w' base L/\RawI w' bl l)(h0:J [] W):
 CallsIn Fence.wide 5 prog 103 #[.func (.yield yl) #[] #[],.pointer (some ⟨sl,0,none⟩),.pointer (some ⟨ss,0,none⟩)] W λe W'=>(∃v,e= .returned v)/\((∃xs,xs=apA a b c L l/\J xs W')\/(∃pre,pre<+:apA a b c L l/\Jx pre W')):=by
 have q0:=Z0 hl 0;simp only[YC,YA] at q0;refine callsIn_of_wp (fk Tryz.func103) rfl trivial ?_ rfl;simp only[Tryz.ntmps103,VZ,YP,XM,Nat.reduceAdd,Nat.reduceSub,UV,UU,TH,UX,YJ,YK];refine Z3J ?_
 gi_wp2
 refine wpIn_label ?_
 gi_wp2
 gi_loopw [12] (λv wr=>∃i:Nat,i<=kl/\v= .int .i64 i/\BelowX n₀ sb W wr/\∃pre,J pre wr/\Hid (apA a b c L l=pre++apA a b c L (l.drop i))) (λv _=>kl - (intOf v).toNat)
 case atStart=>exact⟨0,XS _,rfl,BelowX.refl _ _ _,[],h0,rfl⟩
 case round=>
  obtain⟨i,hi,rfl,hB,pre,Vl,hH⟩:=hrel;by_cases hik:i=kl
  ·subst hik;have hz:apA a b c L l=pre:=by rw[hH.out,<-Fc,TB];simp[apA]
   gi_wp2
   rw[Exit.noGoto_normal]
   go_end0
   exact⟨⟨_,rfl⟩,.inl ⟨_,rfl,by rw[hz];exact Vl⟩⟩
  ·have A3:i<kl:=by omega
   obtain⟨p,hp⟩:∃p,l[i]? =some p:=⟨_,YH (by omega)⟩;obtain⟨hM,hS,hI⟩:=hK wr hB;obtain⟨b',o',rfl,hb',hc'⟩:=hI i p hp;have Hk:wr.cell? ⟨sl,0,none⟩=some (.slice (some ⟨b',o',none⟩) kl cl):=(hB.cell (p:=⟨sl,0,none⟩) Vk Ru).trans q0;have Kl:Hid (apA a b c L l=pre++(apR a b c L p (l.drop (i+1))++apA a b c L (l.drop (i+1)))):=by show _=_;rw[hH.out,Z7D a b c L hp]
   clear hH;by_cases D6:cl=i+1
   ·have Xn:kl=i+1:=(by omega);subst D6;subst Xn;have Eu:Hid (apA a b c L l=pre++apA a b c L (l.drop (i+1))):=(by show _=_;rw[Kl.out,<-Fc,TB];simp[apR]);clear Kl
    gi_wp2
    obtain⟨wo,rfl⟩:∃wo:World,wo=wr:=⟨_,rfl⟩
    gi_loopw [22] (λv wr=>v= .int .i64 0/\wr=wo) (λ_ _=>0)
    case atStart=>exact⟨rfl,rfl⟩
    case round=>
     obtain⟨rfl,rfl⟩:=hrel
     gi_wp2
     go_roundw
     case rel=>exact⟨i+1,by omega,by push_cast;rfl,hB,pre,Vl,Eu⟩
     case measure=>simp[intOf]
   ·have hcap2:i+1<cl:=(by omega);have Ew:¬(i+1=cl):=by omega
    gi_wp2
    obtain⟨wo,rfl⟩:∃wo:World,wo=wr:=⟨_,rfl⟩;have Oi:=Ao p (YQ hp);obtain⟨p',rfl⟩:=VL Oi.1;obtain⟨x,hx⟩:∃x,L[p']? =some x:=⟨_,YH (by omega)⟩;clear hp hM hS hI hc' Hk hb'
    gi_loopw [22] (λv wr=>∃j:Nat,j<=kl - (i+1)/\v= .int .i64 j/\BelowX n₀ sb W wr/\∃pre,J pre wr/\Hid (apA a b c L l=pre++(apR a b c L p' ((l.drop (i+1)).drop j)++apA a b c L (l.drop (i+1))))) (λv _=>kl - (i+1) - (intOf v).toNat)
    case atStart=>exact⟨0,XS _,rfl,hB,pre,Vl,Kl⟩
    case round=>
     obtain⟨j,hj,rfl,Ek,pre2,Sa,Eu⟩:=hrel;clear Vl Kl hB;by_cases Iv:j=kl - (i+1)
     ·have Q6:Hid (apA a b c L l=pre2++apA a b c L (l.drop (i+1))):=by
       show _=_;rw[Eu.out,List.drop_drop,TJ (by omega)];rfl
      have Kw:¬j<kl - (i+1):=(by omega);have Fl:kl - (i+1)<=j:=(by omega);clear Eu
      gi_wp2
      go_roundw
      case rel=>exact⟨i+1,by omega,by push_cast;rfl,Ek,pre2,Sa,Q6⟩
      case measure=>simp[intOf];omega
     ·have Lh:j<kl - (i+1):=(by omega);obtain⟨q,hq⟩:∃q,l[i+1+j]? =some q:=⟨_,YH (by omega)⟩;have hqn:=Ao q (YQ hq);obtain⟨q',rfl⟩:=VL hqn.1;obtain⟨y,hy⟩:∃y,L[q']? =some y:=⟨_,YH (by omega)⟩;have Q6:Hid (apA a b c L l=pre2++(((List.range 3).drop 0).flatMap (apE a b c L p' q')++(apR a b c L p' ((l.drop (i+1)).drop (j+1))++apA a b c L (l.drop (i+1))))):=by
       show _=_;rw[Eu.out,Z7E a b c L p' (q:=(q':Int)) (by rw[List.getElem?_drop];exact hq)];simp[apP,List.range,List.range.loop]
      obtain⟨hM,hS,hI⟩:=hK wr Ek;obtain⟨b2,o2,Em,As,E3⟩:=hI (i+1+j) q' hq;simp only[XJ,Addr.mk.injEq,and_true] at Em;obtain⟨rfl,rfl⟩:=Em;have Ij:wr.cell? ⟨b',o'+(i+1)+j,none⟩=some (.int .i64 q'):=(by rw[TK];exact E3);clear E3 Eu hq
      gi_wp2
      obtain⟨w3,rfl⟩:∃w3:World,w3=wr:=⟨_,rfl⟩;clear hM hS hI Ij As
      gi_loopw [26] (λv wr=>∃k:Nat,k<=3/\v= .int .i64 k/\BelowX n₀ sb W wr/\∃pre,J pre wr/\Hid (apA a b c L l=pre++(((List.range 3).drop k).flatMap (apE a b c L p' q')++(apR a b c L p' ((l.drop (i+1)).drop (j+1))++apA a b c L (l.drop (i+1)))))) (λv _=>3 - (intOf v).toNat)
      case atStart=>exact⟨0,XS _,rfl,Ek,pre2,Sa,Q6⟩
      case round=>
       obtain⟨k,hk,rfl,Oj,pre3,Jh,Vm⟩:=hrel;clear Sa Ek Q6;by_cases Vn:k=3
       ·subst Vn;have Q7:Hid (apA a b c L l=pre3++(apR a b c L p' ((l.drop (i+1)).drop (j+1))++apA a b c L (l.drop (i+1)))):=(by show _=_;rw[Vm.out];rfl);clear Vm
        gi_wp2
        go_roundw
        case rel=>exact⟨j+1,by omega,by push_cast;rfl,Oj,pre3,Jh,Q7⟩
        case measure=>simp[intOf];omega
       ·have Az:k<3:=(by omega);obtain⟨hM,hS,_⟩:=hK wr Oj;have Sc:=(Oj.block ss hsn Fy).trans hs;have s0:=Z0 Sc 0;have s1:=Z0 Sc 1;have s2:=Z0 Sc 2;have s3:=Z0 Sc 3;have s4:=Z0 Sc 4;simp only[YC,YA,YB] at s0 s1 s2 s3 s4;have F1:=ZbR a b c m base n cap L x y p' q' k Az wr hG hM hS A1 hn hx hy;have Q7:Hid (apA a b c L l=pre3++(apE a b c L p' q' k++(((List.range 3).drop (k+1)).flatMap (apE a b c L p' q')++(apR a b c L p' ((l.drop (i+1)).drop (j+1))++apA a b c L (l.drop (i+1)))))):=by
         show _=_;rw[Vm.out,Z0b (i:=k) (x:=k) (by simp[Az]),UE,QG]
        have Sd:Hid (apE a b c L p' q' k=if Z1m a b c x y k=1 then[] else[⟨p',q',k,Z1m a b c x y k⟩]):=(by show _=_;unfold apE;simp only[UF,hx,hy]);clear Vm;generalize Z1m a b c x y k=s at F1 Sd;by_cases Dh:s=1
        ·subst Dh;have Se:Hid (apA a b c L l=pre3++(((List.range 3).drop (k+1)).flatMap (apE a b c L p' q')++(apR a b c L p' ((l.drop (i+1)).drop (j+1))++apA a b c L (l.drop (i+1))))):=(by show _=_;rw[Q7.out,Sd.out];rfl);clear Q7 Sd
         gi_wp2_with (first
          |(refine⟨trivial,?_⟩;gi_at_call 104;refine(TX.2 F1).mono ?_;rintro e w2 ⟨rfl,A4⟩))
         refine⟨λ_ h=>(by cases h),?_⟩
         gi_wp2
         go_roundw
         case rel=>exact⟨k+1,by omega,by push_cast;rfl,Oj.trans (Z15 (A4.alloc _) (XD V4 Oj.size)),pre3,hJ _ _ _ Jh (A4.alloc _),Se⟩
         case measure=>simp[intOf];omega
        ·have A9:((s:Int) !=1)=true:=(by simpa using Dh);have Se:Hid (apA a b c L l=(pre3++[⟨p',q',k,s⟩])++(((List.range 3).drop (k+1)).flatMap (apE a b c L p' q')++(apR a b c L p' ((l.drop (i+1)).drop (j+1))++apA a b c L (l.drop (i+1))))):=(by show _=_;rw[Q7.out,Sd.out,XA Dh];simp);clear Q7 Sd Dh
         gi_wp2_with (first
          |(refine⟨trivial,?_⟩;gi_at_call 104;refine(TX.2 F1).mono ?_;rintro e w2 ⟨rfl,A4⟩
            obtain⟨fn9,tmps9,assign9,body9,Q8,Q9⟩:=hY pre3 ⟨p',q',k,s⟩ (w2.alloc (.cells #[p',q',k,s] 81)) (hJ _ _ _ Jh (A4.alloc _)) (by rw[Se.out];exact List.prefix_append _ _);dsimp only[Zdt] at Q8))
         refine Q9.mono ?_;rintro e W3 (⟨rfl,Sg,Rc⟩|⟨rfl,Xo⟩)
         ·gi_wp2
          go_roundw
          case rel=>exact⟨k+1,by omega,by push_cast;rfl,(Oj.trans (Z15 (A4.alloc _) (XD V4 Oj.size))).trans Rc,_,Sg,Se⟩
          case measure=>simp[intOf];omega
         ·gi_wp2
          rw[Exit.noGoto_normal];refine bodyPost_end (results_none rfl _ _ _) rfl ?_;exact⟨⟨_,rfl⟩,.inr ⟨_,by rw[Se.out];exact List.prefix_append _ _,Xo⟩⟩
theorem Z5W(a b c m:Int)(base:Option Addr)(n cap:Nat)(bl:Option Addr)(kl cl:Nat)(w:World):Calls prog 58 #[.agg #[a,b,c,m,.slice base n cap],.slice bl kl cl] w λe w'=>
 e= .returned (.func (.func 103) #[] #[.pointer (some ⟨w.heap.size+1,0,none⟩),.pointer (some ⟨w.heap.size,0,none⟩)])/\w'=(w.alloc (.cells #[a,b,c,m,.slice base n cap] 117)).alloc (.cells #[.slice bl kl cl] 57):=by
 go_enter fk Tryz.func58,Tryz.ntmps58;go_wp2;go_ret;exact⟨rfl,rfl⟩
def Zr(A:List Ap):Int:=if A.any (λx=>x.s==2) then 2 else if A.isEmpty then 1 else 0
theorem Z6M(N:Int)(p q:Int×Int):Z2Q N p q=0\/Z2Q N p q=1\/Z2Q N p q=2:=by
 unfold Z2Q;split
 ·exact .inr (.inl rfl)
 ·split
  ·exact .inr (.inr rfl)
  ·exact .inl rfl
theorem apE_s{L:List Sf}{k:Nat}:∀x∈apE a b c L p q k,x.s=0\/x.s=2:=by
 intro x hx;unfold apE at hx;split at hx
 ·rename_i y z _ _;have h3:=Z6M (alw a b c k) (spA y k) (spA z k);change Z1m a b c y z k=0\/Z1m a b c y z k=1\/Z1m a b c y z k=2 at h3;split at hx
  ·cases hx
  ·rename_i A9;simp only[XO] at hx;subst hx;rcases h3 with h|h|h
   ·exact .inl h
   ·exact absurd h A9
   ·exact .inr h
 ·cases hx
theorem Zen{a b c:Int}{L:List Sf}:∀{l:List Int}(x:Ap),x∈apA a b c L l->x.s=0\/x.s=2
 |[],x,hx=>by cases hx
 |p::t,x,hx=>by
  rcases VB.1 hx with hx|hx
  ·obtain⟨q,_,hq⟩:=SR.1 hx;simp only[apP,VB] at hq;rcases hq with hq|hq|hq<;>exact apE_s x hq
  ·exact Zen x hx
theorem BelowX.ext(h:BelowX n₀ sb W w')(e:Ext w W)(h1:w.heap.size<=sb)(h2:w.heap.size<=n₀):Ext w w':=
 ⟨XD e.size h.size,λb hb=>(h.block b (by omega) (by omega)).trans (e.old b hb),h.tape.trans e.tape,h.os.trans e.os,h.output.trans e.output⟩
def sayF:List Ap->Int
 |[]=>1
 |x::l=>(l.getLast?.getD x).s
theorem Zah(l:List Ap)(x:Ap):sayF (l++[x])=x.s:=by
 cases l with
 |nil=>rfl
 |cons y l=>simp[sayF]
theorem sayF_match:∀{l:List Ap},(∀x∈l,x.s=0)->sayF l=Zr l
 |[],_=>rfl
 |x::l,h=>by
  have h1:(x::l).any (λx=>x.s==2)=false:=by
   rw[List.any_eq_false];intro y hy;rw[h y hy];decide
  simp only[Zr,h1,List.isEmpty_cons,sayF];refine h _ ?_;cases hl:l.getLast? with
  |none=>exact YY
  |some y=>exact YW _ (List.mem_of_getLast? hl)
theorem Zai(h:Ext w W){D:Nat}{o:Obj}(hD:w.heap.size<=D):Ext w (W.putObj D o):=
 ⟨by rw[World.putObj_size];exact h.size,λb hb=>(VY (by omega)).trans (h.old b hb),h.tape,h.os,h.output⟩
theorem Z5X(a b c m:Int)(base:Option Addr)(n cap:Nat)(L:List Sf)(bl:Option Addr)(kl cl:Nat)(l:List Int)(w:World)
 (hG:Good a b c L)(A1:L.length=n)(hn:n<=20)(Fc:l.length=kl)(Ii:kl<=cl)(Az:kl<=100)(Ao:∀p∈l,0<=p/\p<n)
 (hM:Meas w)(hS:RawA w base L)(hI:RawI w bl l):
 Calls prog 56 #[.agg #[a,b,c,m,.slice base n cap],.slice bl kl cl] w λe w'=>e= .returned (.int .i64 (Zr (apA a b c L l)))/\Ext w w':=by
 refine(TX (n:=6)).1 ?_;refine callsIn_of_wp_marks (fk Tryz.func56) rfl trivial ?_ rfl;simp only[Tryz.ntmps56,VZ,YP,XM,Nat.reduceAdd,Nat.reduceSub,UV,UU,TH,UX,YJ,YK]
 gi_wp2_with (refine⟨trivial,?_⟩;gi_at_call 58;refine(TX.2 (Z5W _ _ _ _ _ _ _ _ _ _ _)).mono ?_;rintro e w' ⟨rfl,rfl⟩)
 have Ab:Ext w ((((w.alloc (.cells #[a,b,c,m,.slice base n cap] 117)).alloc (.cells #[.int .i64 1] 54)).alloc (.cells #[a,b,c,m,.slice base n cap] 117)).alloc (.cells #[.slice bl kl cl] 57)):=((((Ext.rfl' w).alloc _).alloc _).alloc _).alloc _;have B1:((((w.alloc (.cells #[a,b,c,m,.slice base n cap] 117)).alloc (.cells #[.int .i64 1] 54)).alloc (.cells #[a,b,c,m,.slice base n cap] 117)).alloc (.cells #[.slice bl kl cl] 57)).heap.size=w.heap.size+4:=by simp only[Z2]
 have h1:((((w.alloc (.cells #[a,b,c,m,.slice base n cap] 117)).alloc (.cells #[.int .i64 1] 54)).alloc (.cells #[a,b,c,m,.slice base n cap] 117)).alloc (.cells #[.slice bl kl cl] 57)).heap[w.heap.size+1]? =some (.cells #[.int .i64 1] 54):=by
  simp only[Z3,Z2];rw[XA (by omega),XA (by omega),YZ trivial]
 have h2:((((w.alloc (.cells #[a,b,c,m,.slice base n cap] 117)).alloc (.cells #[.int .i64 1] 54)).alloc (.cells #[a,b,c,m,.slice base n cap] 117)).alloc (.cells #[.slice bl kl cl] 57)).heap[w.heap.size+1+1]? =some (.cells #[a,b,c,m,.slice base n cap] 117):=by
  simp only[Z3,Z2];rw[XA (by omega),YZ trivial]
 have h3:((((w.alloc (.cells #[a,b,c,m,.slice base n cap] 117)).alloc (.cells #[.int .i64 1] 54)).alloc (.cells #[a,b,c,m,.slice base n cap] 117)).alloc (.cells #[.slice bl kl cl] 57)).heap[w.heap.size+1+1+1]? =some (.cells #[.slice bl kl cl] 57):=by
  simp only[Z3,Z2];rw[YZ trivial]
 generalize ((((w.alloc (.cells #[a,b,c,m,.slice base n cap] 117)).alloc (.cells #[.int .i64 1] 54)).alloc (.cells #[a,b,c,m,.slice base n cap] 117)).alloc (.cells #[.slice bl kl cl] 57))=w1 at Ab B1 h1 h2 h3⊢;have Bq:∀(W w':World),Ext w1 W->BelowX w1.heap.size (w.heap.size+1) W w'->Ext w w':=λW w' h h'=>h'.ext (Ab.trans h) (by omega) (by omega)
 refine wpIn_rangeFunc_ownH rfl (by omega) (gf:=103) (lb:= #[.pointer (some ⟨w.heap.size+1+1+1,0,none⟩),.pointer (some ⟨w.heap.size+1+1,0,none⟩)]) rfl trivial (λargs w=>by simp[go_sem])
  (encs:=Zdt) (Kp:=BelowX w1.heap.size (w.heap.size+1)) (S:=λxs=>xs=apA a b c L l) (Sp:=λpre=>pre<+:apA a b c L l) (N:=(apA a b c L l).length) (w0:=w1)
  (λyl J Jx W hW Xp hJx hY h0=>Z4f a b c m base n cap L bl kl cl l (w.heap.size+1+1+1) (w.heap.size+1+1) w1.heap.size (w.heap.size+1) yl J Jx
    (λpre x W1 hJ hp=>hY pre x W1 hJ (by have:=hp.length_le;simp at this;omega)) W (λpre u u' hu e=>Xp pre u u' none hu (Z3I e) (λr h=>by cases h)) hG A1 hn Fc Ii Az Ao
    ((hW.block _ (by omega)).trans h2) ((hW.block _ (by omega)).trans h3) hW.size (by omega) (by omega) (by omega) (by omega)
    (λw' hX=>by have e:=Bq W w' ⟨hW.size,hW.block,hW.tape,hW.os,hW.output⟩ hX;exact⟨hM.ext e,hS.ext e,hI.ext e⟩) h0)
  (λh h'=>h.trans h')
  (λW l o o' hl ho _ _=>⟨rfl,rfl,rfl,by simp,λk hk _=>VY (by omega)⟩)
  (Below.refl _ _) (λ_=>rfl)
  (λpre W=>W.heap[w.heap.size+1]? =some (.cells #[.int .i64 (sayF pre)] 54)/\(∀x∈pre,x.s≠2)/\Ext w W/\w1.heap.size<=W.heap.size)
  (λcd pre W=>cd= .exit 0/\W.heap[w.heap.size+1]? =some (.cells #[.int .i64 2] 54)/\(∃x∈pre,x.s=2)/\Ext w W)
  ?hI ?hIx ⟨h1,by simp,Ab,XB _⟩
  (λx a' W=>∃Bx,w1.heap.size<=Bx/\W.heap[Bx]? =some (.cells #[x.p,x.q,x.k,x.s] 81)/\a'={tmps:= #[.agg #[a,b,c,m,.slice base n cap],.slice bl kl cl,.pointer (some ⟨w.heap.size,0,none⟩),undef,.int .i64 0,.pointer (some ⟨w.heap.size+1,0,none⟩),.pointer (some ⟨Bx,0,none⟩),.agg #[a,b,c,m,.slice base n cap],.slice bl kl cl,.func (.func 103) #[] #[.pointer (some ⟨w.heap.size+1+1+1,0,none⟩),.pointer (some ⟨w.heap.size+1+1,0,none⟩)],.agg #[x.p,x.q,x.k,x.s],undef,undef,undef,undef,undef],defers:=[]})
  ?hAx ?assign ?body ?done ?stop
 case hI=>
  rintro pre W W' row ⟨g1,g2,g3,g4⟩ hg hr;refine⟨(hg.block _ (by omega) (λe=>by have:=(hr _ e.symm).1;omega)).trans g1,g2,⟨XD g3.size hg.size,λk hk=>(hg.block k (YS hk g3.size) (λe=>by have:=(hr _ e.symm).1;omega)).trans (g3.old k hk),hg.tape.trans g3.tape,hg.os.trans g3.os,hg.output.trans g3.output⟩,XD g4 hg.size⟩
 case hIx=>
  rintro cd pre W W' row ⟨g0,g1,g2,g3⟩ hg hr;refine⟨g0,(hg.block _ (Z5 g1) (λe=>by have:=(hr _ e.symm).1;omega)).trans g1,g2,⟨XD g3.size hg.size,λk hk=>(hg.block k (YS hk g3.size) (λe=>by have:=(hr _ e.symm).1;omega)).trans (g3.old k hk),hg.tape.trans g3.tape,hg.os.trans g3.os,hg.output.trans g3.output⟩⟩
 case hAx=>
  rintro x a' _ W W' row ⟨Bx,g1,g2,g3⟩ hg hr;refine⟨Bx,g1,(hg.block _ (Z5 g2) (λe=>by obtain⟨_,o,ho,hc⟩:=hr _ e.symm;rw[g2] at ho;cases ho;cases hc)).trans g2,g3⟩
 case assign=>
  rintro yl pre x W K ⟨g1,g2,g3,g4⟩ hK;have hz:(Zdt x).size=1:=rfl;simp only[Zdt,List.zip_toArray,SD,List.zip_nil_left,List.zip_nil_right,List.foldl_toArray',VM,List.foldl_nil,VZ,YP,XM,VG,VU,US,Nat.reduceAdd]
  gi_wp2
  refine hK _ _ ((UY _ _).from _) (Z15 ((Ext.rfl' W).alloc _) g4) ⟨((Ext.rfl' W).alloc _).get g1,g2,g3.trans ((Ext.rfl' W).alloc _),by simp only[Z2];omega⟩ ⟨W.heap.size,g4,by rw[Z3,YZ rfl],rfl⟩
 case body=>
  rintro yl pre x a' W Q0 ⟨r,hr⟩ ⟨g1,g2,g3,g4⟩ ⟨Bx,hBx,bX,rfl⟩ A3;have q3:=Z0 bX 3;have q0:=Z0 g1 0;have f0:=Z8 g1 0;simp only[YC,YA,YB] at q3 q0;obtain⟨xp,xq,xk,xs⟩:=x;simp only at q3 bX;have Iy:∀v,(W.setCell ⟨w.heap.size+1,0,none⟩ v).heap[w.heap.size+1]? =some (.cells #[v] 54):=λv=>Zb g1 v
  have Fa:∀v k,k≠w.heap.size+1->(W.setCell ⟨w.heap.size+1,0,none⟩ v).heap[k]? =W.heap[k]? :=λv k hk=>set_ne hk v
  have hA:=λv=>VI W ⟨w.heap.size+1,0,none⟩ v
  have hBX:∀v,BelowX w1.heap.size (w.heap.size+1) W (W.setCell ⟨w.heap.size+1,0,none⟩ v):=λv=>
   ⟨(hA v).os,(hA v).tape,(hA v).output,by rw[(hA v).size];exact XB _,λk _ hk=>Fa v k hk⟩
  have hsv:∀v,Ext w (W.setCell ⟨w.heap.size+1,0,none⟩ v):=λv=>g3.setCell _ _ (by simp)
  by_cases h:xs=2
  ·subst h
   gi_wp2
   exact⟨(VJ _ _ _).from _,rfl,Iy _,⟨_,List.mem_append_right _ (XO.2 rfl),rfl⟩,hsv _⟩
  ·have hd:decide (xs=2)=false:=by simp[h]
   gi_wp2
   refine⟨(VJ _ _ _).from _,by rw[<-B1];exact hBX _,by rw[Zah];exact Iy _,?_,hsv _,by rw[<-B1];exact XD g4 (hBX (.int .i64 xs)).size⟩;intro y hy;rcases VB.1 hy with hy|hy
   ·exact g2 y hy
   ·cases XO.1 hy;exact h
 case done=>
  rintro D xs W hD rfl ⟨g1,g2,g3,g4⟩ hK;have q0:=Z0 g1 0;simp only[YC,YA,YB] at q0
  gi_wp2
  refine⟨by simp,.inl ⟨_,_,rfl,QR hK,?_⟩⟩;have hv:sayF (apA a b c L l)=Zr (apA a b c L l):=sayF_match (λx hx=>(Zen x hx).resolve_right (g2 x hx));rw[hv];exact⟨_,RG rfl _ _ _,rfl,Zai g3 (by omega)⟩
 case stop=>
  rintro D cd pre W hD hp ⟨rfl,g1,g2,g3⟩ hK;have q0:=Z0 g1 0;simp only[YC,YA,YB] at q0
  gi_wp2
  refine⟨by simp,.inl ⟨_,_,rfl,QR hK,?_⟩⟩;obtain⟨x,hx,Aw⟩:=g2;have hv:Zr (apA a b c L l)=2:=by
   have:(apA a b c L l).any (λx=>x.s==2)=true:=SS.2 ⟨x,hp.subset hx,by rw[Aw];rfl⟩;simp only[Zr,this,XQ]
  rw[hv];exact⟨_,RG rfl _ _ _,rfl,Zai g3 (by omega)⟩
theorem Z4g(h:firstV [x,y]=0):x=0/\y=0:=by
 simp only[firstV] at h;split at h
 ·split at h
  ·exact⟨by assumption,by assumption⟩
  ·exact absurd h (by assumption)
 ·exact absurd h (by assumption)
theorem shA_ok:∀{L:List Sf}{seen:List (List UInt8)},shA seen L=0->∀x∈L,Z8b x=true
 |[],_,_,x,hx=>by cases hx
 |y::t,seen,h,x,hx=>by
  simp only[shA] at h;split at h
  ·exact absurd h (by decide)
  ·split at h
   ·exact absurd h (by decide)
   ·split at h
    ·exact absurd h (by decide)
    ·rename_i h3;rcases XE.1 hx with rfl|hx
     ·simpa using h3
     ·exact shA_ok h x hx
theorem Z4h{L:List Sf}(h:Zp a b c m L=0):Good a b c L/\L.length<=9/\2<=m/\m<=4:=by
 obtain⟨h1,h2⟩:=Z4g h;have hr:okA a 9999&&okA b 9999&&okA c 9999&&decide (2<=m/\m<=4):=by
  unfold Z2J at h1;split at h1
  ·assumption
  ·cases h1
 simp only[okA,YG,XG] at hr;unfold Zj at h2;split at h2
 ·cases h2
 ·exact⟨⟨hr.1.1.1,hr.1.1.2,hr.1.2,shA_ok h2⟩,by omega,hr.2.1,hr.2.2⟩
theorem Z8y(n:Nat)(o:Option Int)(x:Int)(t:List Int):Z1k n o (x::t)=if¬(0<=x/\x<=(n:Int) - 1) then 6 else if(match o with|some y=>decide (x<=y)|none=>false) then 7 else Z1k n (some x) t:=by
 cases o<;>rfl
theorem Z7F{n:Nat}:∀{l:List Int}{o:Option Int},Z1k n o l=0->∀p∈l,0<=p/\p<n
 |[],_,_,x,hx=>by cases hx
 |y::t,o,h,x,hx=>by
  rw[Z8y] at h;generalize (match o with|some z=>decide (y<=z)|none=>false)=bb at h;by_cases hr:¬(0<=y/\y<=(n:Int) - 1)
  ·rw[YZ hr] at h;exact absurd h (by decide)
  ·rw[XA hr] at h;cases bb with
   |true=>rw[YZ rfl] at h;exact absurd h (by decide)
   |false=>
    rcases XE.1 hx with rfl|hx
    ·have:=Decidable.not_not.1 hr;omega
    ·exact Z7F (o:=some y) h x hx
theorem Z1n{L:List Sf}(h:Zo a b c m L l=0):Good a b c L/\(∀p∈l,0<=p/\p<L.length)/\L.length<=9/\2<=m/\m<=4:=by
 obtain⟨h1,h2⟩:=Z4g h;exact⟨(Z4h h1).1,Z7F h2,(Z4h h1).2⟩
def Z1M(a b c m:Int)(L:List Sf)(l:List Int):Int:=if Zo a b c m L l=0 then Zr (apA a b c L l) else 0
theorem Z5Y(a b c m:Int)(base:Option Addr)(n cap:Nat)(L:List Sf)(bl:Option Addr)(k cl:Nat)(l:List Int)(w:World)(A1:L.length=n)(hn:n<=20)(hk:l.length=k)(Ii:k<=cl)(Az:k<=100)(hM:Meas w)(hS:RawA w base L)(hl:RawI w bl l):
 Calls prog 21 #[.agg #[a,b,c,m,.slice base n cap],.slice bl k cl] w λe w'=>e= .returned (.tuple #[.int .i64 (Z1M a b c m L l),.int .i64 (Zo a b c m L l)])/\Ext w w':=by
 have ho:=λW hW=>Z3c a b c m base n cap L bl k cl l W A1 hn hk Az (hM.ext hW) (hS.ext hW) (hl.ext hW)
 by_cases h:Zo a b c m L l=0
 ·obtain⟨hG,Ao,_⟩:=Z1n h;have hm:=λW hW=>Z5X a b c m base n cap L bl k cl l W hG A1 hn hk Ii Az (by rw[<-A1];exact Ao) (hM.ext hW) (hS.ext hW) (hl.ext hW)
  have hF:Z1M a b c m L l=Zr (apA a b c L l):=YZ h;rw[h] at ho⊢;rw[hF];generalize Zr (apA a b c L l)=v at hm⊢;go_enter fk Tryz.func21,Tryz.ntmps21
  go_wp2_with (first
   |(go_at_call 55;refine(ho _ (by(repeat (with_reducible first|assumption|exact Ext.rfl' _|apply Ext.alloc|apply Ext.drew)))).mono ?_;rintro e w2 ⟨rfl,A4⟩
     have Ah:Ext w w2:=Ext.trans (by(repeat (with_reducible first|assumption|exact Ext.rfl' _|apply Ext.alloc|apply Ext.drew))) A4)
   |(go_at_call 56;refine(hm _ (by(repeat (with_reducible first|assumption|exact Ext.rfl' _|apply Ext.alloc|apply Ext.drew)))).mono ?_;rintro e w3 ⟨rfl,Ak⟩))
  go_ret2;exact⟨rfl,Ah.trans (Ext.trans ((Ext.rfl' _).alloc _) Ak)⟩
 ·have hF:Z1M a b c m L l=0:=XA h;have A9:(Zo a b c m L l !=0)=true:=by simpa using h
  rw[hF];generalize Zo a b c m L l=f at ho A9⊢;go_enter fk Tryz.func21,Tryz.ntmps21
  go_wp2_with (
   go_at_call 55;refine(ho _ (by(repeat (with_reducible first|assumption|exact Ext.rfl' _|apply Ext.alloc|apply Ext.drew)))).mono ?_;rintro e w2 ⟨rfl,A4⟩
   have Ah:Ext w w2:=Ext.trans (by(repeat (with_reducible first|assumption|exact Ext.rfl' _|apply Ext.alloc|apply Ext.drew))) A4)
  go_ret2;exact⟨rfl,Ah.alloc _⟩
end
theorem u27:prog.underlying 57=some (.slice 3):=(underlying_eq 57).trans Tryz.underlying57
theorem i3:prog.info? 3=some Tryz.t3:=by kernel_rfl
theorem t3z:Tryz.t3.zero=some (.int .i64 0):=by kernel_rfl
theorem t3s:Tryz.t3.size=1:=by kernel_rfl
theorem t3b:Tryz.t3.bytes=8:=by kernel_rfl
def OwnI(b:Nat)(w:World)(v:Value)(l:List Int):Prop:=w.ownsRow b 3 1 v l.length (l.map (Value.int .i64))
theorem Z1N(w:World)(v:Value)(t:TypeId):∀(j:Nat)(u:Value),[v][j]? =some u->(w.alloc (.cells #[v] t)).cell? ((⟨w.heap.size,0,none⟩:Addr).add j)=some u:=by
 intro j u hu
 match j,hu with
 |0,hu=>
  obtain rfl:=YT hu;rw[Z0c,Z0 (by rw[Z3,YZ rfl])];rfl
 |j+1,hu=>simp at hu
theorem bl_all:(List.range 256).all (λs=>s==0||(bl s==tz s::bl (s&&& (s - 1))&&decide ((s&&& (s - 1))<s)&&bits .and .i64 (s:Int) ((s:Int) - 1)==((s&&& (s - 1):Nat):Int)))=true:=by kernel_rfl
theorem Zdu(hs:s<256)(h0:0<s):bl s=tz s::bl (s&&& (s - 1))/\(s&&& (s - 1))<s/\bits .and .i64 (s:Int) ((s:Int) - 1)=((s&&& (s - 1):Nat):Int):=by
 have:=YL.1 bl_all s (YU.2 hs);simp only[UB,YG,XW,XG] at this;rcases this with h|h
 ·omega
 ·exact⟨h.1.1,h.1.2,h.2⟩
theorem Zeo(s:Nat):(bl s).length<=8:=by
 have:=RK (λi=>s.testBit i) (List.range 8);simpa[bl] using this
theorem ZbS(k:Nat)(hk:k<256)(w:World)(hg:Deb w):Calls prog 117 #[k] w λe w'=>∃v,e= .returned v/\OwnI w.heap.size w' v ((bl k).map fun(i:Nat)=>(i:Int))/\Ext w w':=by
 go_enter fk Tryz.func117,Tryz.ntmps117;go_wp2;go_loopw [0,3] (λv0 v3 wr=>∃s:Nat,s<256/\∃pre:List Nat,bl k=pre++bl s/\v0= .int .i64 s/\OwnI w.heap.size wr v3 (pre.map fun(i:Nat)=>(i:Int))/\Ext w wr) (λv0 _ _=>(intOf v0).toNat)
 case atStart=>exact⟨k,hk,[],rfl,rfl,VN _ _ _ _,Ext.rfl' w⟩
 case round=>
  rename_i v3 _;obtain⟨s,hs,pre,Fb,rfl,Ac,hE⟩:=hrel;by_cases h0:s=0
  ·subst h0;have Si:bl k=pre:=by rw[Fb];simp[bl]
   clear Fb;subst Si;go_wp2;go_ret;exact⟨_,rfl,Ac,hE⟩
  ·obtain⟨s',h1,h2,h3⟩:∃s':Nat,bl s=tz s::bl s'/\s'<s/\bits .and .i64 (s:Int) ((s:Int) - 1)=(s':Int):=⟨_,Zdu hs (by omega)⟩;have A1:pre.length+1<=8:=by
    have:=Zeo k;rw[Fb,h1] at this;simp at this;omega
   have H3:Hid (bl s=tz s::bl s'):=h1;have Hp:Hid (bl k=pre++bl s):=Fb;clear h1 Fb;have Gb:(0:Int)<=(s:Int):=by omega
   have Dh:(s:Int)<256:=by omega
   have Cn:(0:Int)<=(s':Int):=by omega
   have A9:((s:Int) !=0)=true:=by simp;omega
   have htz:=λw hg=>ZdZ s hs (by omega) w hg
   have hdw:=hg.ext hE
   go_wp2_with (first
    |(go_at_call 145;refine(htz _ hdw).mono ?_;rintro e wr ⟨rfl,rfl⟩)
    |(at_builtin
      refine UG _ rfl _ _ _ rfl w.heap.size 3 Tryz.t3 (.int .i64 0) 1 8 u27 i3 t3z t3s t3b rfl (by omega) _ _ _ rfl (Ac.alloc _) ⟨wr.heap.size,0,none⟩ 1 1 [.int .i64 (tz s)] rfl rfl (Z1N _ _ _) (by intro u hu;simp at hu;subst hu;rfl) (by simp[maxLen];omega) (by simp;omega) (by have:=hE.size;simp;omega) ?_;intro v' w3 Aa A5 _;have Ah:Ext w w3:=(hE.alloc _).grown A5 (λk hk=>(Ac.lt k hk).1)))
   go_roundw
   case rel=>exact⟨s',by omega,pre++[tz s],by rw[Hp,H3];simp,rfl,by simpa[OwnI] using Aa,Ah⟩
   case measure=>simp[intOf];omega
section
attribute [local go_sem] Oper.semAt_some
theorem u35:prog.underlying 58=some (.slice 81):=(underlying_eq 58).trans Tryz.underlying58
theorem i46:prog.info? 81=some Tryz.t81:=by kernel_rfl
theorem t46z:Tryz.t81.zero=some (.agg #[.int .i64 0,.int .i64 0,.int .i64 0,.int .i64 0]):=by kernel_rfl
theorem t46s:Tryz.t81.size=4:=by kernel_rfl
theorem t46b:Tryz.t81.bytes=32:=by kernel_rfl
def apC(x:Ap):List Value:=[.int .i64 x.p,.int .i64 x.q,.int .i64 x.k,.int .i64 x.s]
def OwnAp(b:Nat)(w:World)(v:Value)(A:List Ap):Prop:=w.ownsRow b 81 4 v A.length (A.flatMap apC)
theorem Z05{base size:Nat}(h:w.ownsRow base e size v n xs)(hb:base'<=base):w.ownsRow base' e size v n xs:=
 ⟨h.1,h.2.imp id fun⟨g,cap,cur,h1,h2,h3⟩=>⟨g,cap,cur,h1,XD hb h2,h3⟩⟩
theorem Z6N(a b c:Int)(L:List Sf)(p q:Int)(k:Nat):(apE a b c L p q k).length<=1:=by
 unfold apE;split
 ·split<;>simp
 ·simp
theorem Zdv(a b c:Int)(L:List Sf)(p q:Int):(apP a b c L p q).length<=3:=by
 have h0:=Z6N a b c L p q 0;have h1:=Z6N a b c L p q 1;have h2:=Z6N a b c L p q 2;simp only[apP,XK];omega
theorem Zaj(a b c:Int)(L:List Sf)(p:Int):∀t:List Int,(apR a b c L p t).length<=3*t.length
 |[]=>by simp[apR]
 |q::t=>by
  have h:=Zdv a b c L p q;have h2:=Zaj a b c L p t;simp only[apR,UE,XK,YP] at h2⊢;omega
theorem Z3K(a b c:Int)(L:List Sf)(n:Nat):∀l:List Int,l.length<=n->(apA a b c L l).length<=3*n*l.length
 |[],_=>by simp[apA]
 |p::t,h=>by
  have h1:=Zaj a b c L p t;have h2:=Z3K a b c L n t (by simp at h;omega);simp only[apA,XK,YP] at h h1 h2⊢;have h3:3*n*(t.length+1)=3*n*t.length+3*n:=by rw[Nat.mul_add,Nat.mul_one]
  omega
theorem Z7G(w:World)(v0 v1 v2 v3:Value)(t:TypeId):∀(j:Nat)(u:Value),[v0,v1,v2,v3][j]? =some u->(w.alloc (.cells #[v0,v1,v2,v3] t)).cell? ((⟨w.heap.size,0,none⟩:Addr).add j)=some u:=by
 intro j u hu;rw[Z0c,Z0 (by rw[Z3,YZ rfl])];simpa using hu
theorem Z4Z(a b c m:Int)(base:Option Addr)(n cap:Nat)(L:List Sf)(bl:Option Addr)(kl cl:Nat)(l:List Int)(sl ss:Nat)(w:World)
 (hG:Good a b c L)(A1:L.length=n)(hn:n<=20)(Fc:l.length=kl)(Ii:kl<=cl)(Az:kl<=100)(Ao:∀p∈l,0<=p/\p<n)
 (hM:Meas w)(hS:RawA w base L)(hI:RawI w bl l)
 (h2:w.heap[ss]? =some (.cells #[a,b,.int .i64 c,m,.slice base n cap] 117))(h3:w.heap[sl]? =some (.cells #[.slice bl kl cl] 57)):
 Calls prog 102 #[.slice none 0 0,.func (.func 103) #[] #[.pointer (some ⟨sl,0,none⟩),.pointer (some ⟨ss,0,none⟩)]] w λe w'=>∃v,e= .returned v/\OwnAp w.heap.size w' v (apA a b c L l)/\Ext w w':=by
 have Xq:(apA a b c L l).length<=30000:=by
  have h:=Z3K a b c L 100 l (by omega);have:3*100*l.length<=30000:=by omega
  omega
 have Lo:=Z5 h2;have Qa:=Z5 h3;refine(TX (n:=6)).1 ?_;refine callsIn_of_wp_marks (fk Tryz.func102) rfl trivial ?_ rfl;simp only[Tryz.ntmps102,VZ,YP,XM,Nat.reduceAdd,Nat.reduceSub,UV,UU,TH,UX,YJ,YK]
 gi_wp2
 have Ab:Ext w (w.alloc (.cells #[.slice none 0 0] 58)):=(Ext.rfl' w).alloc _;have B1:(w.alloc (.cells #[.slice none 0 0] 58)).heap.size=w.heap.size+1:=Z2 _ _;have h1:(w.alloc (.cells #[.slice none 0 0] 58)).heap[w.heap.size]? =some (.cells #[.slice none 0 0] 58):=by rw[Z3,YZ rfl]
 generalize w.alloc (.cells #[.slice none 0 0] 58)=w1 at Ab B1 h1⊢;have Bq:∀(W w':World),Ext w1 W->BelowX w1.heap.size w.heap.size W w'->Ext w w':=λW w' h h'=>h'.ext (Ab.trans h) (by omega) (by omega)
 refine wpIn_rangeFunc_ownH rfl (by omega) (gf:=103) (lb:= #[.pointer (some ⟨sl,0,none⟩),.pointer (some ⟨ss,0,none⟩)]) rfl trivial (λargs w=>by simp[go_sem])
  (encs:=Zdt) (Kp:=BelowX w1.heap.size w.heap.size) (S:=λxs=>xs=apA a b c L l) (Sp:=λpre=>pre<+:apA a b c L l) (N:=(apA a b c L l).length) (w0:=w1)
  (λyl J Jx W hW Xp hJx hY h0=>Z4f a b c m base n cap L bl kl cl l sl ss w1.heap.size w.heap.size yl J Jx
    (λpre x W1 hJ hp=>hY pre x W1 hJ (by have:=hp.length_le;simp at this;omega)) W (λpre u u' hu e=>Xp pre u u' none hu (Z3I e) (λr h=>by cases h)) hG A1 hn Fc Ii Az Ao
    ((hW.block _ (by omega)).trans (Ab.get h2)) ((hW.block _ (by omega)).trans (Ab.get h3)) hW.size (by omega) (by omega) (by omega) (by omega)
    (λw' hX=>by have e:=Bq W w' ⟨hW.size,hW.block,hW.tape,hW.os,hW.output⟩ hX;exact⟨hM.ext e,hS.ext e,hI.ext e⟩) h0)
  (λh h'=>h.trans h')
  (λW l o o' hl ho _ _=>⟨rfl,rfl,rfl,by simp,λk hk _=>VY (by omega)⟩)
  (Below.refl _ _) (λ_=>rfl)
  (λpre W=>∃v,W.heap[w.heap.size]? =some (.cells #[v] 58)/\OwnAp w1.heap.size W v pre/\Ext w W/\w1.heap.size<=W.heap.size)
  (λcd pre W=>False)
  ?hI ?hIx ⟨_,h1,VN _ _ _ _,Ab,XB _⟩
  (λx a' W=>∃Bx,w1.heap.size<=Bx/\W.heap[Bx]? =some (.cells #[x.p,x.q,x.k,x.s] 81)/\a'={tmps:= #[.slice none 0 0,.func (.func 103) #[] #[.pointer (some ⟨sl,0,none⟩),.pointer (some ⟨ss,0,none⟩)],.pointer (some ⟨w.heap.size,0,none⟩),undef,.slice none 0 0,.pointer (some ⟨Bx,0,none⟩),.func (.func 103) #[] #[.pointer (some ⟨sl,0,none⟩),.pointer (some ⟨ss,0,none⟩)],.agg #[x.p,x.q,x.k,x.s],undef,undef,undef,undef,undef],defers:=[]})
  ?hAx ?assign ?body ?done ?stop
 case hI=>
  rintro pre W W' row ⟨v,g1,g2,g3,g4⟩ hg hr;have A9:∀k,v.ownBlock=some k->some k≠row:=by
   intro k hk e;obtain⟨c,hc⟩:∃c,W.heap[k]? =some (.cells c 81):=by
    rcases g2.2 with⟨rfl,_⟩|⟨g,cp,cur,rfl,_,hg',_⟩
    ·cases hk
    ·cases hk;exact⟨cur,hg'⟩
   obtain⟨_,o,ho,Bc⟩:=hr k e.symm;rw[hc] at ho;cases ho;cases Bc
  refine⟨v,(hg.block _ (by omega) (λe=>by have:=(hr _ e.symm).1;omega)).trans g1,g2.kept hg ?_,⟨XD g3.size hg.size,λk hk=>(hg.block k (YS hk g3.size) (λe=>by have:=(hr _ e.symm).1;omega)).trans (g3.old k hk),hg.tape.trans g3.tape,hg.os.trans g3.os,hg.output.trans g3.output⟩,XD g4 hg.size⟩;cases hv:v.ownBlock with
  |none=>exact .inl rfl
  |some k=>exact .inr (A9 k hv)
 case hIx=>
  rintro cd pre W W' row h;exact h.elim
 case hAx=>
  rintro x a' _ W W' row ⟨Bx,g1,g2,g3⟩ hg hr;refine⟨Bx,g1,(hg.block _ (Z5 g2) (λe=>by obtain⟨_,o,ho,hc⟩:=hr _ e.symm;rw[g2] at ho;cases ho;cases hc)).trans g2,g3⟩
 case assign=>
  rintro yl pre x W K ⟨v,g1,g2,g3,g4⟩ hK;simp only[Zdt,List.zip_toArray,SD,List.zip_nil_left,List.zip_nil_right,List.foldl_toArray',VM,List.foldl_nil,VZ,YP,XM,VG,VU,US,Nat.reduceAdd]
  gi_wp2
  refine hK _ _ ((UY _ _).from _) (Z15 ((Ext.rfl' W).alloc _) g4) ⟨v,((Ext.rfl' W).alloc _).get g1,g2.alloc _,g3.trans ((Ext.rfl' W).alloc _),by simp only[Z2];omega⟩ ⟨W.heap.size,g4,by rw[Z3,YZ rfl],rfl⟩
 case body=>
  rintro yl pre x a' W Q0 ⟨r,hr⟩ ⟨v,g1,g2,g3,g4⟩ ⟨Bx,hBx,bX,rfl⟩ A3;have q0:=Z0 bX 0;have q1:=Z0 bX 1;have q2:=Z0 bX 2;have q3:=Z0 bX 3;have r0:=Z0 g1 0;simp only[YC,YA,YB] at q0 q1 q2 q3 r0
  gi_wp2_with (
   gi_at_builtin
   refine wpListIn_append_own _ rfl _ _ 58 rfl w1.heap.size 81 Tryz.t81 _ 4 32 u35 i46 t46z t46s t46b rfl (by decide) _ _ _ rfl (g2.alloc _) ⟨W.heap.size,0,none⟩ 1 1 (apC x) rfl rfl (Z7G _ _ _ _ _ _) (by intro u hu;simp only[apC,XE,XL,VO] at hu;rcases hu with rfl|rfl|rfl|rfl<;>rfl) (by simp[maxLen];omega) (by omega) (by simp only[Z2];omega) ?_;intro v' w3 Aa A5 _;obtain⟨g',cp',rfl,Ol,Om⟩:=XP Aa (by omega);have Bu:(W.alloc (.cells #[x.p,x.q,x.k,x.s] 81)).grownBy w3 v.ownBlock:=A5;have g13:w3.heap[w.heap.size]? =some (.cells #[v] 58):=Z0m Bu (λe=>by have:=((g2.alloc (.cells #[x.p,x.q,x.k,x.s] 81)).lt _ e.symm).1;omega) (((Ext.rfl' W).alloc _).get g1);have r3:=Z0 g13 0;have f3:=Z8 g13 0;have Ah:Ext w1 w3\/True:= .inr trivial;simp only[YC,YA] at r3)
  have Bc:∀(j:Nat)(o:Obj),v.ownBlock=some j->(W.alloc (.cells #[x.p,x.q,x.k,x.s] 81)).heap[j]? =some o->o.isCells=true:=by
   intro j o hj ho;rcases(g2.alloc (.cells #[x.p,x.q,x.k,x.s] 81)).2 with⟨rfl,_⟩|⟨g,cp,cur,rfl,_,hg',_⟩
   ·cases hj
   ·cases hj;rw[hg'] at ho;cases ho;rfl
  have Af:∀k,v.ownBlock=some k->w1.heap.size<=k:=λk hk=>(g2.lt k hk).1
  have hA:=VI w3 ⟨w.heap.size,0,none⟩ (.slice (some ⟨g',0,none⟩) (pre.length+1) cp')
  refine⟨(((UY _ _).trans (SJ Bu Bc)).trans (VJ _ _ _)).from _,
   ⟨hA.os.trans Bu.os,hA.tape.trans Bu.tape,hA.output.trans Bu.output,by rw[hA.size];exact XD (by simp) Bu.size,λk hk hn=> ?_⟩,
   ⟨_,Zb g13 _,by simpa[OwnAp] using VA Aa (a:=⟨w.heap.size,0,none⟩) (by simp only;omega) _,((g3.alloc _).grown Bu (λk hk=>by have:=Af k hk;omega)).setCell _ _ (XB _),by rw[hA.size];exact XD g4 (XD (by simp) Bu.size)⟩⟩
  exact(hA.block k hn).trans ((Bu.block k (by simp only[Z2];omega) (λe=>by have:=Af k e.symm;omega)).trans (((Ext.rfl' W).alloc _).old k (by omega)))
 case done=>
  rintro D xs W hD rfl ⟨v,g1,g2,g3,g4⟩ hK;have q0:=Z0 g1 0;simp only[YC,YA,YB] at q0
  gi_wp2
  refine⟨by simp,.inl ⟨_,_,rfl,QR hK,?_⟩⟩;exact⟨_,RG rfl _ _ _,v,rfl,Z05 (ownsRow_putObj g2 _ hK rfl) (by omega),Zai g3 (by omega)⟩
 case stop=>
  rintro D cd pre W hD hp h hK;exact h.elim
theorem Z6O(a b c m:Int)(base:Option Addr)(n cap:Nat)(L:List Sf)(bl:Option Addr)(kl cl:Nat)(l:List Int)(sl ss:Nat)(w:World)
 (hG:Good a b c L)(A1:L.length=n)(hn:n<=20)(Fc:l.length=kl)(Ii:kl<=cl)(Az:kl<=100)(Ao:∀p∈l,0<=p/\p<n)
 (hM:Meas w)(hS:RawA w base L)(hI:RawI w bl l)
 (h2:w.heap[ss]? =some (.cells #[a,b,c,m,.slice base n cap] 117))(h3:w.heap[sl]? =some (.cells #[.slice bl kl cl] 57)):
 Calls prog 57 #[.func (.func 103) #[] #[.pointer (some ⟨sl,0,none⟩),.pointer (some ⟨ss,0,none⟩)]] w λe w'=>∃v,e= .returned v/\OwnAp w.heap.size w' v (apA a b c L l)/\Ext w w':=by
 have hc:=Z4Z a b c m base n cap L bl kl cl l sl ss w hG A1 hn Fc Ii Az Ao hM hS hI h2 h3;go_enter fk Tryz.func57,Tryz.ntmps57
 go_wp2_with (
  go_at_call 102;refine hc.mono ?_;rintro e w2 ⟨v,rfl,Ac,hE⟩)
 go_ret;exact⟨v,rfl,Ac,hE⟩
def Z0Q(a b c m:Int)(L:List Sf)(l:List Int):List Ap:=if Zo a b c m L l=0 then apA a b c L l else[]
theorem Z5Z(a b c m:Int)(base:Option Addr)(n cap:Nat)(L:List Sf)(bl:Option Addr)(k cl:Nat)(l:List Int)(w:World)(A1:L.length=n)(hn:n<=20)(hk:l.length=k)(Ii:k<=cl)(Az:k<=100)(hM:Meas w)(hS:RawA w base L)(hl:RawI w bl l):
 Calls prog 22 #[.agg #[a,b,c,m,.slice base n cap],.slice bl k cl] w λe w'=>∃v,e= .returned (.tuple #[v,.int .i64 (Zo a b c m L l)])/\OwnAp w.heap.size w' v (Z0Q a b c m L l)/\Ext w w':=by
 have ho:=λW hW=>Z3c a b c m base n cap L bl k cl l W A1 hn hk Az (hM.ext hW) (hS.ext hW) (hl.ext hW)
 by_cases h:Zo a b c m L l=0
 ·obtain⟨hG,Ao,_⟩:=Z1n h;have hm:=λW hW sl ss=>Z6O a b c m base n cap L bl k cl l sl ss W hG A1 hn hk Ii Az (by rw[<-A1];exact Ao) (hM.ext hW) (hS.ext hW) (hl.ext hW)
  have hF:Z0Q a b c m L l=apA a b c L l:=YZ h;rw[h] at ho⊢;rw[hF];generalize apA a b c L l=A at hm⊢;go_enter fk Tryz.func22,Tryz.ntmps22
  go_wp2_with (first
   |(go_at_call 55;refine(ho _ (by(repeat (with_reducible first|assumption|exact Ext.rfl' _|apply Ext.alloc|apply Ext.drew)))).mono ?_;rintro e w2 ⟨rfl,A4⟩
     have Ah:Ext w w2:=Ext.trans (by(repeat (with_reducible first|assumption|exact Ext.rfl' _|apply Ext.alloc|apply Ext.drew))) A4)
   |(go_at_call 58;refine(Z5W _ _ _ _ _ _ _ _ _ _ _).mono ?_;rintro e w3 ⟨rfl,Ej⟩
     have Ak:Ext w w3:=(by rw[Ej];exact(by(repeat (with_reducible first|assumption|exact Ext.rfl' _|apply Ext.alloc|apply Ext.drew))));have g1:w3.heap[w2.heap.size+1]? =some (.cells #[a,b,c,m,.slice base n cap] 117):=by
      rw[Ej];simp only[Z3,Z2];rw[XA (by omega),YZ trivial]
     have g2:w3.heap[w2.heap.size+1+1]? =some (.cells #[.slice bl k cl] 57):=by
      rw[Ej];simp only[Z3,Z2];rw[YZ trivial]
     clear Ej)
   |(go_at_call 57;refine(hm _ Ak _ _ g1 g2).mono ?_;rintro e w4 ⟨v,rfl,Ac,B4⟩))
  go_ret2;exact⟨v,rfl,Z05 Ac Ak.size,Ak.trans B4⟩
 ·have hF:Z0Q a b c m L l=[]:=XA h;have A9:(Zo a b c m L l !=0)=true:=by simpa using h
  rw[hF];generalize Zo a b c m L l=f at ho A9⊢;go_enter fk Tryz.func22,Tryz.ntmps22
  go_wp2_with (
   go_at_call 55;refine(ho _ (by(repeat (with_reducible first|assumption|exact Ext.rfl' _|apply Ext.alloc|apply Ext.drew)))).mono ?_;rintro e w2 ⟨rfl,A4⟩
   have Ah:Ext w w2:=Ext.trans (by(repeat (with_reducible first|assumption|exact Ext.rfl' _|apply Ext.alloc|apply Ext.drew))) A4)
  go_ret2;exact⟨_,rfl,VN _ _ _ _,Ah.alloc _⟩
end
theorem OwnI.form{b:Nat}{w:World}{v:Value}{l:List Int}(h:OwnI b w v l)(hl:0<l.length):∃g cap,v= .slice (some ⟨g,0,none⟩) l.length cap/\b<=g/\g<w.heap.size:=XP h hl
theorem OwnI.raw{b:Nat}(h:OwnI b w (.slice (some ⟨g,0,none⟩) n cap) l):RawI w (some ⟨g,0,none⟩) l:=by
 intro i x hx;refine⟨g,0,rfl,(h.lt g rfl).2,?_⟩;have:=h.cells (g:=g) rfl i (.int .i64 x) (by rw[List.getElem?_map,hx];rfl);rw[Z0c] at this;rw[UA];exact this
theorem OwnI.le{b:Nat}(h:OwnI b w v l)(hb:b'<=b):OwnI b' w v l:=Z05 h hb
theorem Z60(g n cap:Nat)(l:List Int)(w:World)(hn:l.length=n)(h0:0<n)(h1:n<=100)(D6:n<=cap)(hg:g<w.heap.size)(hc:∀(j:Nat) u,(l.map (Value.int .i64))[j]? =some u->w.cell? ⟨g,j,none⟩=some u):
 Calls prog 60 #[.slice (some ⟨g,0,none⟩) n cap] w λe w'=>∃g' cap',e= .returned (.slice (some ⟨g',0,none⟩) n cap')/\OwnI w.heap.size w' (.slice (some ⟨g',0,none⟩) n cap') l/\Ext w w':=by
 have hb:∀w,(binOp .eql 57 (.slice (some ⟨g,0,none⟩) n cap) (.slice none 0 0)).run prog w= .ok (.bool false) w:=λw=>by
  simp[go_sem,binOp,run_equal_slice_nil w 57 3 _ n cap u27]
 have hX:∀(j:Nat) u,(l.map (Value.int .i64))[j]? =some u->(w.alloc (.cells #[] 3)).cell? ((⟨g,0,none⟩:Addr).add j)=some u:=by
  intro j u hu;have e:(⟨g,0,none⟩:Addr).add j=⟨g,j,none⟩:=by rw[Z0c]
  rw[e];exact((Ext.rfl' w).alloc _).cellS (hc j u hu)
 go_enter fk Tryz.func60,Tryz.ntmps60
 go_wp2_with (
  at_builtin
  refine UG _ rfl _ _ _ rfl w.heap.size 3 Tryz.t3 (.int .i64 0) 1 8 u27 i3 t3z t3s t3b rfl (by omega) _ 0 [] rfl (Z6s w w.heap.size 3 #[] 0 w.heap.size rfl (XB _) rfl (by simp)) ⟨g,0,none⟩ n cap (l.map (Value.int .i64)) rfl (by simp[hn]) hX (by intro u hu;obtain⟨x,_,rfl⟩:=VD.1 hu;rfl) (by simp[maxLen];omega) (by omega) (by simp) ?_;intro v' w3 Aa A5 _;replace Aa:w3.ownsRow w.heap.size 3 1 v' n (l.map (Value.int .i64)):=by simpa using Aa
  obtain⟨g',cp',rfl,Ol,Om⟩:=XP Aa (by omega);have Bu:(w.alloc (.cells #[] 3)).grownBy w3 (some w.heap.size):=A5;have Ah:Ext w w3:=((Ext.rfl' w).alloc _).grown Bu (λk hk=>by cases hk;exact XB _))
 go_ret;exact⟨g',cp',rfl,by subst hn;exact Aa,Ah⟩
theorem Z1V(a0:Option Addr)(n0 c0:Nat)(a1:Option Addr)(n1 c1:Nat)(w:World):
 Calls prog 107 #[.slice a0 n0 c0,.slice a1 n1 c1] w λe w'=>e= .returned (if n0<n1 then .slice a1 n1 c1 else .slice a0 n0 c0)/\w'=w:=by
 by_cases h:n0<n1
 ·rw[YZ h];go_enter fk Tryz.func107,Tryz.ntmps107;go_wp2;go_ret;exact⟨rfl,rfl⟩
 ·rw[XA h];go_enter fk Tryz.func107,Tryz.ntmps107;go_wp2;go_ret;exact⟨rfl,rfl⟩
theorem Z0I(w:World){ops:Array Oper}{rest:List Oper}{o:Oper}{a:Act}{Q:Exit->Act->World->Prop}
 (hg:o.guard=none)(s x:Operand)(t:TypeId)(A2:o.op=Op.call {callee:=Callee.builtin Builtin.append,args:= #[s,x],argTypes:= #[t,t]})
 (base:Nat)(e:TypeId)(i:TypeInfo)(z:Value)(size bytes:Nat)(h1:P.underlying t=some (.slice e))(h2:P.info? e=some i)(h3:i.zero=some z)(h4:i.size=size)(h5:i.bytes=bytes)(h6:z.cells.size=size)(h7:0<size)
 (v:Value)(k:Nat)(xs:List Value)(hs:a.eval s=v)(Ac:w.ownsRow base e size v k xs)(ad:Addr)(m c:Nat)(news:List Value)(hx:a.eval x= .slice (some ad) m c)(hn:news.length=m*size)
 (hc:∀j u,news[j]? =some u->w.cell? (ad.add j)=some u)(Sj:∀u∈news,u.oneCell'=true)(hm:0<m)(b1:k+m<=maxLen)(b2:(k+m)*bytes<=140737488355328)(b3:base<=w.heap.size)
 (hK:∀g' cap' w',w'.ownsRow base e size (.slice (some ⟨g',0,none⟩) (k+m) cap') (k+m) (xs++news)->w.grownBy w' v.ownBlock->w'.ownsRow base e size v k xs->(v= .slice (some ⟨g',0,none⟩) k cap'\/w.heap.size<=g')->
   wpList P ops Q rest (a.put o.dst (.slice (some ⟨g',0,none⟩) (k+m) cap')) w'):
 wpList P ops Q (o::rest) a w:=by
 have Dy:∀(w':World),w.grownBy w' none->w.grownBy w' v.ownBlock:=λw' h=>⟨h.os,h.tape,h.output,h.size,λb hb _=>h.block b hb (λe=>by cases e)⟩
 have Ce:∀(v':Value)(w':World),w'.ownsRow w.heap.size e size v' (k+m) (xs++news)->w.grownBy w' none->wpList P ops Q rest (a.put o.dst v') w':=by
  intro v' w' ho hg;obtain⟨g',cap',rfl,hb,_⟩:=XP ho (by omega);exact hK g' cap' w' (Z05 ho b3) (Dy w' hg) (Ac.kept hg (by cases h:v.ownBlock with|none=>exact .inl rfl|some q=>exact .inr (by simp))) (.inr hb)
 have Ip:=Ac.1;rcases Ac.2 with⟨rfl,rfl⟩|⟨g,cap,cur,rfl,Xr,Q1,Ii,Vb,Ag,Jc⟩
 ·exact TY w hg s x t A2 e i z size bytes h1 h2 h3 h4 h5 h6 h7 none 0 0 xs hs (λ_=>⟨rfl,rfl⟩) Ip (λb hb=>by cases hb) ad m c news hx hn hc Sj (by omega) b1 b2 Ce
 ·by_cases hr:k+m<=cap
  ·refine wpList_append_fits w hg s x t A2 base e i size h1 h2 h4 g k cap xs hs Ac ad m c news hx hn hc Sj hr ?_;intro w' ho hg';refine hK g cap w' ho hg' ⟨Ip,.inr ?_⟩ (.inl rfl);rcases ho.2 with⟨h,_⟩|⟨g2,cap2,cur2,he,As,C7,Az,E3,Cn,Nm⟩
   ·cases h
   ·cases he;refine⟨g,cap,cur2,rfl,Xr,C7,Ii,Vb,Cn,?_⟩;have h8:(cur2.toList.take ((k+m)*size)).take (k*size)=xs:=(by rw[Nm];rw[<-Ip];exact List.take_left);rw[List.take_take,RS (TS _ (QN _ _))] at h8;exact h8
  ·exact TY w hg s x t A2 e i z size bytes h1 h2 h3 h4 h5 h6 h7 (some ⟨g,0,none⟩) k cap xs hs (λh=>by cases h) Ip (λb hb j u hj=>by cases hb;exact Ac.cells (g:=g) rfl j u hj) ad m c news hx hn hc Sj (by omega) b1 b2 Ce
end Go.Proofs.Tryq
