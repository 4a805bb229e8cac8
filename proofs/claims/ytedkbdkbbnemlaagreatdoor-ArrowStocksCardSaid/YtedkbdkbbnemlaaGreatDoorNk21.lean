import Derived.Test.YtedkbdkbbnemlaaGreatDoorNkA
import Derived.Test.YtedkbdkbbnemlaaGreatDoorNk20
import Derived.ArgAppend
import Derived.Deep.AppendLies
import Derived.Laws.Cover3
import Derived.LoopIn
import Derived.LoopNIn
import Derived.OwnWalk
import Derived.OwnWalkIn
import Derived.RangeFuncBound
import Derived.RangeFuncCalls
import Derived.RangeFuncLeaves
import Derived.RangeFuncNested
import Derived.TacticsInMore
import Derived.WalkMore
set_option linter.all false
namespace Go.Proofs.Tryq
set_option maxRecDepth 100000
set_option maxHeartbeats 4000000
open Go Go.Nk Go.RowKit
attribute [local go_sem] Oper.semAt_some
structure Ap where
 p:Int
 q:Int
 k:Int
 s:Int
def apE(a b c:Int)(L:List Sf)(p q:Int)(k:Nat):List Ap:=match L[p.toNat]?,L[q.toNat]? with
 |some x,some y=>if Z1m a b c x y k=1 then[] else[⟨p,q,k,Z1m a b c x y k⟩]
 |_,_=>[]
def apP(a b c:Int)(L:List Sf)(p q:Int):List Ap:=apE a b c L p q 0++(apE a b c L p q 1++apE a b c L p q 2)
def apR(a b c:Int)(L:List Sf)(p:Int)(t:List Int):List Ap:=t.flatMap (apP a b c L p)
def apA(a b c:Int)(L:List Sf):List Int->List Ap
 |[]=>[]
 |p::t=>apR a b c L p t++apA a b c L t
def Zdt(x:Ap):Array Value:= #[.agg #[.int .i64 x.p,.int .i64 x.q,.int .i64 x.k,.int .i64 x.s]]
theorem Z3I{w w':World}(h:Ext w w'):w.grownBy w' none:=⟨h.os,h.tape,h.output,h.size,fun k hk _=>h.old k hk⟩
theorem Z3J{P:Program}{n:Nat}{c:Code}{Q:Exit->Act->World->Prop}{a:Act}{w:World}(h:c.wpIn Fence.wide n P (Exit.noGoto Q) a w):c.scope.wpIn Fence.wide n P Q a w:=wpIn_wide.2 (wp_scope_straight (wpIn_wide.1 h))
structure BelowX(B sb:Nat)(w w':World):Prop where
 os:w'.os=w.os
 tape:w'.tape=w.tape
 output:w'.output=w.output
 size:w.heap.size<=w'.heap.size
 block:∀k,k<B->k≠sb->w'.heap[k]? =w.heap[k]?
theorem BelowX.refl(B sb:Nat)(w:World):BelowX B sb w w:=⟨rfl,rfl,rfl,Nat.le_refl _,fun _ _ _=>rfl⟩
theorem BelowX.trans{B sb:Nat}{a b c:World}(h:BelowX B sb a b)(k:BelowX B sb b c):BelowX B sb a c:=
 ⟨k.os.trans h.os,k.tape.trans h.tape,k.output.trans h.output,Nat.le_trans h.size k.size,fun i hi hn=>(k.block i hi hn).trans (h.block i hi hn)⟩
theorem BelowX.cell{B sb:Nat}{w w':World}(h:BelowX B sb w w'){p:Addr}(hp:p.block<B)(hn:p.block≠sb):w'.cell? p=w.cell? p:=by simp only[World.cell?,h.block _ hp hn]
theorem Z15{w w':World}{n₀ sb:Nat}(h:Ext w w')(hn:n₀<=w.heap.size):BelowX n₀ sb w w':=⟨h.os,h.tape,h.output,h.size,fun k hk _=>h.old k (by omega)⟩
theorem Z7D(a b c:Int)(L:List Sf){l:List Int}{i:Nat}{p:Int}(h:l[i]? =some p):apA a b c L (l.drop i)=apR a b c L p (l.drop (i+1))++apA a b c L (l.drop (i+1)):=by rw[Z0b h];rfl
theorem Z7E(a b c:Int)(L:List Sf)(p:Int){t:List Int}{j:Nat}{q:Int}(h:t[j]? =some q):apR a b c L p (t.drop j)=apP a b c L p q++apR a b c L p (t.drop (j+1)):=by rw[Z0b h];rfl
structure Good(a b c:Int)(L:List Sf):Prop where
 ha:0<=a/\a<=9999
 hb:0<=b/\b<=9999
 hc:0<=c/\c<=9999
 ok:∀x∈L,Z8b x=true
theorem Good.ins{a b c:Int}{L:List Sf}(h:Good a b c L){x:Sf}(hx:x∈L):ZF (spA x 0)=true/\ZF (spA x 1)=true/\ZF (spA x 2)=true:=by
 have:=h.ok x hx;simp only[Z8b,YG] at this;exact⟨this.1.1,this.1.2,this.2⟩
theorem ZbR(a b c m:Int)(base:Option Addr)(n cap:Nat)(L:List Sf)(x y:Sf)(i j k:Nat)(hk:k<3)(w:World)(hG:Good a b c L)(hM:Meas w)(hS:RawA w base L)(A3:L.length=n)(hn:n<=20)
 (hx:L[i]? =some x)(hy:L[j]? =some y):
 Calls prog 143 #[.agg #[.int .i64 a,.int .i64 b,.int .i64 c,.int .i64 m,.slice base n cap],.int .i64 i,.int .i64 j,.int .i64 k] w fun e w'=>e= .returned (.int .i64 (Z1m a b c x y k))/\Ext w w':=by
 obtain⟨b1,o1,e1,B6,sx,_⟩:=hS i x hx;obtain⟨b2,o2,e2,Ao,sy,_⟩:=hS j y hy;subst e1;simp only[Option.some.injEq,Addr.mk.injEq,and_true] at e2;obtain⟨rfl,rfl⟩:=e2;have hi:=(YI.1 hx).1;have hj:=(YI.1 hy).1;have ix:=hG.ins (YQ hx);have iy:=hG.ins (YQ hy);obtain rfl|rfl|rfl:k=0\/k=1\/k=2:=by omega
 ·exact Zae a b c m b1 o1 n cap x y i j w hM B6 (by omega) (by omega) hn sx sy hG.ha ix.1 iy.1
 ·exact Zaf a b c m b1 o1 n cap x y i j w hM B6 (by omega) (by omega) hn sx sy hG.hb ix.2.1 iy.2.1
 ·exact Zag a b c m b1 o1 n cap x y i j w hM B6 (by omega) (by omega) hn sx sy hG.hc ix.2.2 iy.2.2
theorem Z4f(a b c m:Int)(base:Option Addr)(n cap:Nat)(L:List Sf)(bl:Option Addr)(kl cl:Nat)(l:List Int)(sl ss n₀ sb:Nat)(yl:Nat)(J Jx:List Ap->World->Prop)
 (hY:∀pre x W1,J pre W1->(pre++[x])<+:apA a b c L l->YieldAt Fence.wide 4 prog yl (Zdt x) W1 fun e W'=>(e= .returned (.bool true)/\J (pre++[x]) W'/\BelowX n₀ sb W1 W')\/(e= .returned (.bool false)/\Jx (pre++[x]) W'))
 (W:World)(hJ:∀pre w w',J pre w->Ext w w'->J pre w')
 (hG:Good a b c L)(A3:L.length=n)(hn:n<=20)(F0:l.length=kl)(I4:kl<=cl)(B0:kl<=100)(Aw:∀p∈l,0<=p/\p<n)
 (hs:W.heap[ss]? =some (.cells #[.int .i64 a,.int .i64 b,.int .i64 c,.int .i64 m,.slice base n cap] 120))(hl:W.heap[sl]? =some (.cells #[.slice bl kl cl] 27))(Gu:n₀<=W.heap.size)(hsn:ss<n₀)(hln:sl<n₀)(Gb:ss≠sb)(V3:sl≠sb)
 (hK:∀w',BelowX n₀ sb W w'->Meas w'/\RawA w' base L/\RawI w' bl l)(h0:J [] W):
 CallsIn Fence.wide 5 prog 142 #[.func (.yield yl) #[] #[],.pointer (some ⟨sl,0,none⟩),.pointer (some ⟨ss,0,none⟩)] W fun e W'=>(∃v,e= .returned v)/\((∃xs,xs=apA a b c L l/\J xs W')\/(∃pre,pre<+:apA a b c L l/\Jx pre W')):=by
 have q0:=Z0 hl 0;simp only[YC,YA] at q0;refine callsIn_of_wp func142 rfl trivial ?_ rfl;simp only[ntmps142,List.size_toArray,YP,List.length_nil,Nat.reduceAdd,Nat.reduceSub,Array.replicate_succ,Array.replicate_zero,List.push_toArray,List.append_toArray,YJ,YK];refine Z3J ?_
 gi_wp2
 refine wpIn_label ?_
 gi_wp2
 gi_loopw [12] (fun v wr=>∃i:Nat,i<=kl/\v= .int .i64 i/\BelowX n₀ sb W wr/\∃pre,J pre wr/\Hid (apA a b c L l=pre++apA a b c L (l.drop i))) (fun v _=>kl - (intOf v).toNat)
 case atStart=>exact⟨0,Nat.zero_le _,rfl,BelowX.refl _ _ _,[],h0,rfl⟩
 case round=>
  obtain⟨i,hi,rfl,hB,pre,V7,hH⟩:=hrel;by_cases V8:i=kl
  ·subst V8;have hz:apA a b c L l=pre:=by rw[hH.out,<-F0,List.drop_length];simp[apA]
   gi_wp2
   rw[Exit.noGoto_normal]
   go_end0
   exact⟨⟨_,rfl⟩,.inl ⟨_,rfl,by rw[hz];exact V7⟩⟩
  ·have A4:i<kl:=by omega
   obtain⟨p,hp⟩:∃p,l[i]? =some p:=⟨_,YH (by omega)⟩;obtain⟨hM,hS,hI⟩:=hK wr hB;obtain⟨b',o',rfl,hb',hc'⟩:=hI i p hp;have Fo:wr.cell? ⟨sl,0,none⟩=some (.slice (some ⟨b',o',none⟩) kl cl):=(hB.cell (p:=⟨sl,0,none⟩) hln V3).trans q0;have Px:Hid (apA a b c L l=pre++(apR a b c L p (l.drop (i+1))++apA a b c L (l.drop (i+1)))):=by show _=_;rw[hH.out,Z7D a b c L hp]
   clear hH;by_cases Df:cl=i+1
   ·have Xi:kl=i+1:=(by omega);subst Df;subst Xi;have El:Hid (apA a b c L l=pre++apA a b c L (l.drop (i+1))):=(by show _=_;rw[Px.out,<-F0,List.drop_length];simp[apR]);clear Px
    gi_wp2
    obtain⟨wo,rfl⟩:∃wo:World,wo=wr:=⟨_,rfl⟩
    gi_loopw [22] (fun v wr=>v= .int .i64 0/\wr=wo) (fun _ _=>0)
    case atStart=>exact⟨rfl,rfl⟩
    case round=>
     obtain⟨rfl,rfl⟩:=hrel
     gi_wp2
     go_roundw
     case rel=>exact⟨i+1,by omega,by push_cast;rfl,hB,pre,V7,El⟩
     case measure=>simp[intOf]
   ·have hcap2:i+1<cl:=(by omega);have Ed:¬(i+1=cl):=by omega
    gi_wp2
    obtain⟨wo,rfl⟩:∃wo:World,wo=wr:=⟨_,rfl⟩;have O8:=Aw p (YQ hp);obtain⟨p',rfl⟩:=Int.eq_ofNat_of_zero_le O8.1;obtain⟨x,hx⟩:∃x,L[p']? =some x:=⟨_,YH (by omega)⟩;clear hp hM hS hI hc' Fo hb'
    gi_loopw [22] (fun v wr=>∃j:Nat,j<=kl - (i+1)/\v= .int .i64 j/\BelowX n₀ sb W wr/\∃pre,J pre wr/\Hid (apA a b c L l=pre++(apR a b c L p' ((l.drop (i+1)).drop j)++apA a b c L (l.drop (i+1))))) (fun v _=>kl - (i+1) - (intOf v).toNat)
    case atStart=>exact⟨0,Nat.zero_le _,rfl,hB,pre,V7,Px⟩
    case round=>
     obtain⟨j,hj,rfl,O9,pre2,Xj,El⟩:=hrel;clear V7 Px hB;by_cases Gw:j=kl - (i+1)
     ·have Py:Hid (apA a b c L l=pre2++apA a b c L (l.drop (i+1))):=by
       show _=_;rw[El.out,List.drop_drop,List.drop_of_length_le (by omega)];rfl
      have Kf:¬j<kl - (i+1):=(by omega);have Fa:kl - (i+1)<=j:=(by omega);clear El
      gi_wp2
      go_roundw
      case rel=>exact⟨i+1,by omega,by push_cast;rfl,O9,pre2,Xj,Py⟩
      case measure=>simp[intOf];omega
     ·have G8:j<kl - (i+1):=(by omega);obtain⟨q,hq⟩:∃q,l[i+1+j]? =some q:=⟨_,YH (by omega)⟩;have hqn:=Aw q (YQ hq);obtain⟨q',rfl⟩:=Int.eq_ofNat_of_zero_le hqn.1;obtain⟨y,hy⟩:∃y,L[q']? =some y:=⟨_,YH (by omega)⟩;have Py:Hid (apA a b c L l=pre2++(((List.range 3).drop 0).flatMap (apE a b c L p' q')++(apR a b c L p' ((l.drop (i+1)).drop (j+1))++apA a b c L (l.drop (i+1))))):=by
       show _=_;rw[El.out,Z7E a b c L p' (q:=(q':Int)) (by rw[List.getElem?_drop];exact hq)];simp[apP,List.range,List.range.loop]
      obtain⟨hM,hS,hI⟩:=hK wr O9;obtain⟨b2,o2,H9,Ao,Dq⟩:=hI (i+1+j) q' hq;simp only[Option.some.injEq,Addr.mk.injEq,and_true] at H9;obtain⟨rfl,rfl⟩:=H9;have Pz:wr.cell? ⟨b',o'+(i+1)+j,none⟩=some (.int .i64 q'):=(by rw[Nat.add_assoc];exact Dq);clear Dq El hq
      gi_wp2
      obtain⟨w3,rfl⟩:∃w3:World,w3=wr:=⟨_,rfl⟩;clear hM hS hI Pz Ao
      gi_loopw [26] (fun v wr=>∃k:Nat,k<=3/\v= .int .i64 k/\BelowX n₀ sb W wr/\∃pre,J pre wr/\Hid (apA a b c L l=pre++(((List.range 3).drop k).flatMap (apE a b c L p' q')++(apR a b c L p' ((l.drop (i+1)).drop (j+1))++apA a b c L (l.drop (i+1)))))) (fun v _=>3 - (intOf v).toNat)
      case atStart=>exact⟨0,Nat.zero_le _,rfl,O9,pre2,Xj,Py⟩
      case round=>
       obtain⟨k,hk,rfl,Oa,pre3,Xk,Va⟩:=hrel;clear Xj O9 Py;by_cases hk3:k=3
       ·subst hk3;have Q0:Hid (apA a b c L l=pre3++(apR a b c L p' ((l.drop (i+1)).drop (j+1))++apA a b c L (l.drop (i+1)))):=(by show _=_;rw[Va.out];rfl);clear Va
        gi_wp2
        go_roundw
        case rel=>exact⟨j+1,by omega,by push_cast;rfl,Oa,pre3,Xk,Q0⟩
        case measure=>simp[intOf];omega
       ·have B0:k<3:=(by omega);obtain⟨hM,hS,_⟩:=hK wr Oa;have S6:=(Oa.block ss hsn Gb).trans hs;have s0:=Z0 S6 0;have s1:=Z0 S6 1;have s2:=Z0 S6 2;have s3:=Z0 S6 3;have s4:=Z0 S6 4;simp only[YC,YA,YB] at s0 s1 s2 s3 s4;have Ep:=ZbR a b c m base n cap L x y p' q' k B0 wr hG hM hS A3 hn hx hy;have Q0:Hid (apA a b c L l=pre3++(apE a b c L p' q' k++(((List.range 3).drop (k+1)).flatMap (apE a b c L p' q')++(apR a b c L p' ((l.drop (i+1)).drop (j+1))++apA a b c L (l.drop (i+1)))))):=by
         show _=_;rw[Va.out,Z0b (i:=k) (x:=k) (by simp[B0]),List.flatMap_cons,List.append_assoc]
        have S7:Hid (apE a b c L p' q' k=if Z1m a b c x y k=1 then[] else[⟨p',q',k,Z1m a b c x y k⟩]):=(by show _=_;unfold apE;simp only[Int.toNat_natCast,hx,hy]);clear Va;generalize Z1m a b c x y k=s at Ep S7;by_cases Cc:s=1
        ·subst Cc;have S8:Hid (apA a b c L l=pre3++(((List.range 3).drop (k+1)).flatMap (apE a b c L p' q')++(apR a b c L p' ((l.drop (i+1)).drop (j+1))++apA a b c L (l.drop (i+1))))):=(by show _=_;rw[Q0.out,S7.out];rfl);clear Q0 S7
         gi_wp2_with (first
          |(refine⟨trivial,?_⟩;gi_at_call 143;refine(callsIn_wide.2 Ep).mono ?_;rintro e w2 ⟨rfl,A8⟩))
         refine⟨fun _ h=>(by cases h),?_⟩
         gi_wp2
         go_roundw
         case rel=>exact⟨k+1,by omega,by push_cast;rfl,Oa.trans (Z15 (A8.alloc _) (Nat.le_trans Gu Oa.size)),pre3,hJ _ _ _ Xk (A8.alloc _),S8⟩
         case measure=>simp[intOf];omega
        ·have A9:((s:Int) !=1)=true:=(by simpa using Cc);have S8:Hid (apA a b c L l=(pre3++[⟨p',q',k,s⟩])++(((List.range 3).drop (k+1)).flatMap (apE a b c L p' q')++(apR a b c L p' ((l.drop (i+1)).drop (j+1))++apA a b c L (l.drop (i+1))))):=(by show _=_;rw[Q0.out,S7.out,if_neg Cc];simp);clear Q0 S7 Cc
         gi_wp2_with (first
          |(refine⟨trivial,?_⟩;gi_at_call 143;refine(callsIn_wide.2 Ep).mono ?_;rintro e w2 ⟨rfl,A8⟩
            obtain⟨fn9,tmps9,assign9,body9,hy9,Xl⟩:=hY pre3 ⟨p',q',k,s⟩ (w2.alloc (.cells #[.int .i64 p',.int .i64 q',.int .i64 k,.int .i64 s] 46)) (hJ _ _ _ Xk (A8.alloc _)) (by rw[S8.out];exact List.prefix_append _ _);dsimp only[Zdt] at hy9))
         refine Xl.mono ?_;rintro e W3 (⟨rfl,hJ9,Rc⟩|⟨rfl,Xm⟩)
         ·gi_wp2
          go_roundw
          case rel=>exact⟨k+1,by omega,by push_cast;rfl,(Oa.trans (Z15 (A8.alloc _) (Nat.le_trans Gu Oa.size))).trans Rc,_,hJ9,S8⟩
          case measure=>simp[intOf];omega
         ·gi_wp2
          rw[Exit.noGoto_normal];refine bodyPost_end (results_none rfl _ _ _) rfl ?_;exact⟨⟨_,rfl⟩,.inr ⟨_,by rw[S8.out];exact List.prefix_append _ _,Xm⟩⟩
theorem Z5W(a b c m:Int)(base:Option Addr)(n cap:Nat)(bl:Option Addr)(kl cl:Nat)(w:World):Calls prog 97 #[.agg #[.int .i64 a,.int .i64 b,.int .i64 c,.int .i64 m,.slice base n cap],.slice bl kl cl] w fun e w'=>
 e= .returned (.func (.func 142) #[] #[.pointer (some ⟨w.heap.size+1,0,none⟩),.pointer (some ⟨w.heap.size,0,none⟩)])/\w'=(w.alloc (.cells #[.int .i64 a,.int .i64 b,.int .i64 c,.int .i64 m,.slice base n cap] 120)).alloc (.cells #[.slice bl kl cl] 27):=by
 go_enter func97,ntmps97;go_wp2;go_ret;exact⟨rfl,rfl⟩
def Zr(A:List Ap):Int:=if A.any (fun x=>x.s==2) then 2 else if A.isEmpty then 1 else 0
theorem Z6M(N:Int)(p q:Int×Int):Z2Q N p q=0\/Z2Q N p q=1\/Z2Q N p q=2:=by
 unfold Z2Q;split
 ·exact .inr (.inl rfl)
 ·split
  ·exact .inr (.inr rfl)
  ·exact .inl rfl
theorem apE_s{a b c:Int}{L:List Sf}{p q:Int}{k:Nat}:∀x∈apE a b c L p q k,x.s=0\/x.s=2:=by
 intro x hx;unfold apE at hx;split at hx
 ·rename_i y z _ _;have h3:=Z6M (alw a b c k) (spA y k) (spA z k);change Z1m a b c y z k=0\/Z1m a b c y z k=1\/Z1m a b c y z k=2 at h3;split at hx
  ·cases hx
  ·rename_i A9;simp only[List.mem_singleton] at hx;subst hx;rcases h3 with h|h|h
   ·exact .inl h
   ·exact absurd h A9
   ·exact .inr h
 ·cases hx
theorem Zen{a b c:Int}{L:List Sf}:∀{l:List Int}(x:Ap),x∈apA a b c L l->x.s=0\/x.s=2
 |[],x,hx=>by cases hx
 |p::t,x,hx=>by
  rcases List.mem_append.1 hx with hx|hx
  ·obtain⟨q,_,hq⟩:=List.mem_flatMap.1 hx;simp only[apP,List.mem_append] at hq;rcases hq with hq|hq|hq<;>exact apE_s x hq
  ·exact Zen x hx
theorem BelowX.ext{n₀ sb:Nat}{w W w':World}(h:BelowX n₀ sb W w')(e:Ext w W)(h1:w.heap.size<=sb)(h2:w.heap.size<=n₀):Ext w w':=
 ⟨Nat.le_trans e.size h.size,fun b hb=>(h.block b (by omega) (by omega)).trans (e.old b hb),h.tape.trans e.tape,h.os.trans e.os,h.output.trans e.output⟩
def sayF:List Ap->Int
 |[]=>1
 |x::l=>(l.getLast?.getD x).s
theorem Zah(l:List Ap)(x:Ap):sayF (l++[x])=x.s:=by
 cases l with
 |nil=>rfl
 |cons y l=>simp[sayF]
theorem sayF_match:∀{l:List Ap},(∀x∈l,x.s=0)->sayF l=Zr l
 |[],_=>rfl
 |x::l,h=>by
  have h1:(x::l).any (fun x=>x.s==2)=false:=by
   rw[List.any_eq_false];intro y hy;rw[h y hy];decide
  simp only[Zr,h1,List.isEmpty_cons,sayF];refine h _ ?_;cases hl:l.getLast? with
  |none=>exact YY
  |some y=>exact YW _ (List.mem_of_getLast? hl)
theorem Zai{w W:World}(h:Ext w W){D:Nat}{o:Obj}(hD:w.heap.size<=D):Ext w (W.putObj D o):=
 ⟨by rw[World.putObj_size];exact h.size,fun b hb=>(World.putObj_heap_other (by omega)).trans (h.old b hb),h.tape,h.os,h.output⟩
theorem Z5X(a b c m:Int)(base:Option Addr)(n cap:Nat)(L:List Sf)(bl:Option Addr)(kl cl:Nat)(l:List Int)(w:World)
 (hG:Good a b c L)(A3:L.length=n)(hn:n<=20)(F0:l.length=kl)(I4:kl<=cl)(B0:kl<=100)(Aw:∀p∈l,0<=p/\p<n)
 (hM:Meas w)(hS:RawA w base L)(hI:RawI w bl l):
 Calls prog 87 #[.agg #[.int .i64 a,.int .i64 b,.int .i64 c,.int .i64 m,.slice base n cap],.slice bl kl cl] w fun e w'=>e= .returned (.int .i64 (Zr (apA a b c L l)))/\Ext w w':=by
 refine(callsIn_wide (n:=6)).1 ?_;refine callsIn_of_wp_marks func87 rfl trivial ?_ rfl;simp only[ntmps87,List.size_toArray,YP,List.length_nil,Nat.reduceAdd,Nat.reduceSub,Array.replicate_succ,Array.replicate_zero,List.push_toArray,List.append_toArray,YJ,YK]
 gi_wp2_with (refine⟨trivial,?_⟩;gi_at_call 97;refine(callsIn_wide.2 (Z5W _ _ _ _ _ _ _ _ _ _ _)).mono ?_;rintro e w' ⟨rfl,rfl⟩)
 have As:Ext w ((((w.alloc (.cells #[.int .i64 a,.int .i64 b,.int .i64 c,.int .i64 m,.slice base n cap] 120)).alloc (.cells #[.int .i64 1] 30)).alloc (.cells #[.int .i64 a,.int .i64 b,.int .i64 c,.int .i64 m,.slice base n cap] 120)).alloc (.cells #[.slice bl kl cl] 27)):=((((Ext.rfl' w).alloc _).alloc _).alloc _).alloc _;have Az:((((w.alloc (.cells #[.int .i64 a,.int .i64 b,.int .i64 c,.int .i64 m,.slice base n cap] 120)).alloc (.cells #[.int .i64 1] 30)).alloc (.cells #[.int .i64 a,.int .i64 b,.int .i64 c,.int .i64 m,.slice base n cap] 120)).alloc (.cells #[.slice bl kl cl] 27)).heap.size=w.heap.size+4:=by simp only[Z2]
 have h1:((((w.alloc (.cells #[.int .i64 a,.int .i64 b,.int .i64 c,.int .i64 m,.slice base n cap] 120)).alloc (.cells #[.int .i64 1] 30)).alloc (.cells #[.int .i64 a,.int .i64 b,.int .i64 c,.int .i64 m,.slice base n cap] 120)).alloc (.cells #[.slice bl kl cl] 27)).heap[w.heap.size+1]? =some (.cells #[.int .i64 1] 30):=by
  simp only[Z3,Z2];rw[if_neg (by omega),if_neg (by omega),if_pos trivial]
 have h2:((((w.alloc (.cells #[.int .i64 a,.int .i64 b,.int .i64 c,.int .i64 m,.slice base n cap] 120)).alloc (.cells #[.int .i64 1] 30)).alloc (.cells #[.int .i64 a,.int .i64 b,.int .i64 c,.int .i64 m,.slice base n cap] 120)).alloc (.cells #[.slice bl kl cl] 27)).heap[w.heap.size+1+1]? =some (.cells #[.int .i64 a,.int .i64 b,.int .i64 c,.int .i64 m,.slice base n cap] 120):=by
  simp only[Z3,Z2];rw[if_neg (by omega),if_pos trivial]
 have h3:((((w.alloc (.cells #[.int .i64 a,.int .i64 b,.int .i64 c,.int .i64 m,.slice base n cap] 120)).alloc (.cells #[.int .i64 1] 30)).alloc (.cells #[.int .i64 a,.int .i64 b,.int .i64 c,.int .i64 m,.slice base n cap] 120)).alloc (.cells #[.slice bl kl cl] 27)).heap[w.heap.size+1+1+1]? =some (.cells #[.slice bl kl cl] 27):=by
  simp only[Z3,Z2];rw[if_pos trivial]
 generalize ((((w.alloc (.cells #[.int .i64 a,.int .i64 b,.int .i64 c,.int .i64 m,.slice base n cap] 120)).alloc (.cells #[.int .i64 1] 30)).alloc (.cells #[.int .i64 a,.int .i64 b,.int .i64 c,.int .i64 m,.slice base n cap] 120)).alloc (.cells #[.slice bl kl cl] 27))=w1 at As Az h1 h2 h3⊢;have B5:∀(W w':World),Ext w1 W->BelowX w1.heap.size (w.heap.size+1) W w'->Ext w w':=fun W w' h h'=>h'.ext (As.trans h) (by omega) (by omega)
 refine wpIn_rangeFunc_ownH rfl (by omega) (gf:=142) (lb:= #[.pointer (some ⟨w.heap.size+1+1+1,0,none⟩),.pointer (some ⟨w.heap.size+1+1,0,none⟩)]) rfl trivial (fun args w=>by simp[go_sem])
  (encs:=Zdt) (Kp:=BelowX w1.heap.size (w.heap.size+1)) (S:=fun xs=>xs=apA a b c L l) (Sp:=fun pre=>pre<+:apA a b c L l) (N:=(apA a b c L l).length) (w0:=w1)
  (fun yl J Jx W hW Xn hJx hY h0=>Z4f a b c m base n cap L bl kl cl l (w.heap.size+1+1+1) (w.heap.size+1+1) w1.heap.size (w.heap.size+1) yl J Jx
    (fun pre x W1 hJ hp=>hY pre x W1 hJ (by have:=hp.length_le;simp at this;omega)) W (fun pre u u' hu e=>Xn pre u u' none hu (Z3I e) (fun r h=>by cases h)) hG A3 hn F0 I4 B0 Aw
    ((hW.block _ (by omega)).trans h2) ((hW.block _ (by omega)).trans h3) hW.size (by omega) (by omega) (by omega) (by omega)
    (fun w' hX=>by have e:=B5 W w' ⟨hW.size,hW.block,hW.tape,hW.os,hW.output⟩ hX;exact⟨hM.ext e,hS.ext e,hI.ext e⟩) h0)
  (fun h h'=>h.trans h')
  (fun W l o o' hl ho _ _=>⟨rfl,rfl,rfl,by simp,fun k hk _=>World.putObj_heap_other (by omega)⟩)
  (Below.refl _ _) (fun _=>rfl)
  (fun pre W=>W.heap[w.heap.size+1]? =some (.cells #[.int .i64 (sayF pre)] 30)/\(∀x∈pre,x.s≠2)/\Ext w W/\w1.heap.size<=W.heap.size)
  (fun cd pre W=>cd= .exit 0/\W.heap[w.heap.size+1]? =some (.cells #[.int .i64 2] 30)/\(∃x∈pre,x.s=2)/\Ext w W)
  ?hI ?hIx ⟨h1,by simp,As,Nat.le_refl _⟩
  (fun x a' W=>∃Bx,w1.heap.size<=Bx/\W.heap[Bx]? =some (.cells #[.int .i64 x.p,.int .i64 x.q,.int .i64 x.k,.int .i64 x.s] 46)/\a'={tmps:= #[.agg #[.int .i64 a,.int .i64 b,.int .i64 c,.int .i64 m,.slice base n cap],.slice bl kl cl,.pointer (some ⟨w.heap.size,0,none⟩),undef,.int .i64 0,.pointer (some ⟨w.heap.size+1,0,none⟩),.pointer (some ⟨Bx,0,none⟩),.agg #[.int .i64 a,.int .i64 b,.int .i64 c,.int .i64 m,.slice base n cap],.slice bl kl cl,.func (.func 142) #[] #[.pointer (some ⟨w.heap.size+1+1+1,0,none⟩),.pointer (some ⟨w.heap.size+1+1,0,none⟩)],.agg #[.int .i64 x.p,.int .i64 x.q,.int .i64 x.k,.int .i64 x.s],undef,undef,undef,undef,undef],defers:=[]})
  ?hAx ?assign ?body ?done ?stop
 case hI=>
  rintro pre W W' row ⟨g1,g2,g3,g4⟩ hg hr;refine⟨(hg.block _ (by omega) (fun e=>by have:=(hr _ e.symm).1;omega)).trans g1,g2,⟨Nat.le_trans g3.size hg.size,fun k hk=>(hg.block k (YS hk g3.size) (fun e=>by have:=(hr _ e.symm).1;omega)).trans (g3.old k hk),hg.tape.trans g3.tape,hg.os.trans g3.os,hg.output.trans g3.output⟩,Nat.le_trans g4 hg.size⟩
 case hIx=>
  rintro cd pre W W' row ⟨g0,g1,g2,g3⟩ hg hr;refine⟨g0,(hg.block _ (Z5 g1) (fun e=>by have:=(hr _ e.symm).1;omega)).trans g1,g2,⟨Nat.le_trans g3.size hg.size,fun k hk=>(hg.block k (YS hk g3.size) (fun e=>by have:=(hr _ e.symm).1;omega)).trans (g3.old k hk),hg.tape.trans g3.tape,hg.os.trans g3.os,hg.output.trans g3.output⟩⟩
 case hAx=>
  rintro x a' _ W W' row ⟨Bx,g1,g2,g3⟩ hg hr;refine⟨Bx,g1,(hg.block _ (Z5 g2) (fun e=>by obtain⟨_,o,ho,hc⟩:=hr _ e.symm;rw[g2] at ho;cases ho;cases hc)).trans g2,g3⟩
 case assign=>
  rintro yl pre x W K ⟨g1,g2,g3,g4⟩ hK;have hz:(Zdt x).size=1:=rfl;simp only[Zdt,List.zip_toArray,List.zip_cons_cons,List.zip_nil_left,List.zip_nil_right,List.foldl_toArray',List.foldl_cons,List.foldl_nil,List.size_toArray,YP,List.length_nil,List.setIfInBounds_toArray,List.set_cons_zero,List.set_cons_succ,Nat.reduceAdd]
  gi_wp2
  refine hK _ _ ((KeepsOthers.alloc _ _).from _) (Z15 ((Ext.rfl' W).alloc _) g4) ⟨((Ext.rfl' W).alloc _).get g1,g2,g3.trans ((Ext.rfl' W).alloc _),by simp only[Z2];omega⟩ ⟨W.heap.size,g4,by rw[Z3,if_pos rfl],rfl⟩
 case body=>
  rintro yl pre x a' W Pt ⟨r,hr⟩ ⟨g1,g2,g3,g4⟩ ⟨Bx,hBx,bX,rfl⟩ A4;have q3:=Z0 bX 3;have q0:=Z0 g1 0;have f0:=Z8 g1 0;simp only[YC,YA,YB] at q3 q0;obtain⟨xp,xq,xk,xs⟩:=x;simp only at q3 bX;have In:∀v,(W.setCell ⟨w.heap.size+1,0,none⟩ v).heap[w.heap.size+1]? =some (.cells #[v] 30):=fun v=>Zb g1 v
  have Ey:∀v k,k≠w.heap.size+1->(W.setCell ⟨w.heap.size+1,0,none⟩ v).heap[k]? =W.heap[k]? :=fun v k hk=>set_ne hk v
  have hA:=fun v=>Go.Conc.aside_setCell W ⟨w.heap.size+1,0,none⟩ v
  have hBX:∀v,BelowX w1.heap.size (w.heap.size+1) W (W.setCell ⟨w.heap.size+1,0,none⟩ v):=fun v=>
   ⟨(hA v).os,(hA v).tape,(hA v).output,by rw[(hA v).size];exact Nat.le_refl _,fun k _ hk=>Ey v k hk⟩
  have hsv:∀v,Ext w (W.setCell ⟨w.heap.size+1,0,none⟩ v):=fun v=>g3.setCell _ _ (by simp)
  by_cases h:xs=2
  ·subst h
   gi_wp2
   exact⟨(KeepsOthers.setCell _ _ _).from _,rfl,In _,⟨_,List.mem_append_right _ (List.mem_singleton.2 rfl),rfl⟩,hsv _⟩
  ·have hd:decide (xs=2)=false:=by simp[h]
   gi_wp2
   refine⟨(KeepsOthers.setCell _ _ _).from _,by rw[<-Az];exact hBX _,by rw[Zah];exact In _,?_,hsv _,by rw[<-Az];exact Nat.le_trans g4 (hBX (.int .i64 xs)).size⟩;intro y hy;rcases List.mem_append.1 hy with hy|hy
   ·exact g2 y hy
   ·cases List.mem_singleton.1 hy;exact h
 case done=>
  rintro D xs W hD rfl ⟨g1,g2,g3,g4⟩ hK;have q0:=Z0 g1 0;simp only[YC,YA,YB] at q0
  gi_wp2
  refine⟨by simp,.inl ⟨_,_,rfl,run_takeDeferred hK,?_⟩⟩;have hv:sayF (apA a b c L l)=Zr (apA a b c L l):=sayF_match (fun x hx=>(Zen x hx).resolve_right (g2 x hx));rw[hv];exact⟨_,results_tmp rfl _ _ _,rfl,Zai g3 (by omega)⟩
 case stop=>
  rintro D cd pre W hD hp ⟨rfl,g1,g2,g3⟩ hK;have q0:=Z0 g1 0;simp only[YC,YA,YB] at q0
  gi_wp2
  refine⟨by simp,.inl ⟨_,_,rfl,run_takeDeferred hK,?_⟩⟩;obtain⟨x,hx,Bv⟩:=g2;have hv:Zr (apA a b c L l)=2:=by
   have:(apA a b c L l).any (fun x=>x.s==2)=true:=List.any_eq_true.2 ⟨x,hp.subset hx,by rw[Bv];rfl⟩;simp only[Zr,this,if_true]
  rw[hv];exact⟨_,results_tmp rfl _ _ _,rfl,Zai g3 (by omega)⟩
end Go.Proofs.Tryq
namespace Go.Proofs.Tryq
set_option maxRecDepth 100000
set_option maxHeartbeats 2000000
open Go Go.Nk Go.RowKit
attribute [local go_sem] Oper.semAt_some
theorem Z4g{x y:Int}(h:firstV [x,y]=0):x=0/\y=0:=by
 simp only[firstV] at h;split at h
 ·split at h
  ·exact⟨by assumption,by assumption⟩
  ·exact absurd h (by assumption)
 ·exact absurd h (by assumption)
theorem shA_ok:∀{L:List Sf}{seen:List (List UInt8)},shA seen L=0->∀x∈L,Z8b x=true
 |[],_,_,x,hx=>by cases hx
 |y::t,seen,h,x,hx=>by
  simp only[shA] at h;split at h
  ·exact absurd h (by decide)
  ·split at h
   ·exact absurd h (by decide)
   ·split at h
    ·exact absurd h (by decide)
    ·rename_i h3;rcases List.mem_cons.1 hx with rfl|hx
     ·simpa using h3
     ·exact shA_ok h x hx
theorem Z4h{a b c m:Int}{L:List Sf}(h:Zp a b c m L=0):Good a b c L/\L.length<=9/\2<=m/\m<=4:=by
 obtain⟨h1,h2⟩:=Z4g h;have hr:okA a 9999&&okA b 9999&&okA c 9999&&decide (2<=m/\m<=4):=by
  unfold Z2J at h1;split at h1
  ·assumption
  ·cases h1
 simp only[okA,YG,decide_eq_true_eq] at hr;unfold Zj at h2;split at h2
 ·cases h2
 ·exact⟨⟨hr.1.1.1,hr.1.1.2,hr.1.2,shA_ok h2⟩,by omega,hr.2.1,hr.2.2⟩
theorem Z8y(n:Nat)(o:Option Int)(x:Int)(t:List Int):Z1k n o (x::t)=if¬(0<=x/\x<=(n:Int) - 1) then 6 else if(match o with|some y=>decide (x<=y)|none=>false) then 7 else Z1k n (some x) t:=by
 cases o<;>rfl
theorem Z7F{n:Nat}:∀{l:List Int}{o:Option Int},Z1k n o l=0->∀p∈l,0<=p/\p<n
 |[],_,_,x,hx=>by cases hx
 |y::t,o,h,x,hx=>by
  rw[Z8y] at h;generalize (match o with|some z=>decide (y<=z)|none=>false)=bb at h;by_cases hr:¬(0<=y/\y<=(n:Int) - 1)
  ·rw[if_pos hr] at h;exact absurd h (by decide)
  ·rw[if_neg hr] at h;cases bb with
   |true=>rw[if_pos rfl] at h;exact absurd h (by decide)
   |false=>
    rcases List.mem_cons.1 hx with rfl|hx
    ·have:=Decidable.not_not.1 hr;omega
    ·exact Z7F (o:=some y) h x hx
theorem Z1n{a b c m:Int}{L:List Sf}{l:List Int}(h:Zo a b c m L l=0):Good a b c L/\(∀p∈l,0<=p/\p<L.length)/\L.length<=9/\2<=m/\m<=4:=by
 obtain⟨h1,h2⟩:=Z4g h;exact⟨(Z4h h1).1,Z7F h2,(Z4h h1).2⟩
def Z1M(a b c m:Int)(L:List Sf)(l:List Int):Int:=if Zo a b c m L l=0 then Zr (apA a b c L l) else 0
theorem Z5Y(a b c m:Int)(base:Option Addr)(n cap:Nat)(L:List Sf)(bl:Option Addr)(k cl:Nat)(l:List Int)(w:World)(A3:L.length=n)(hn:n<=20)(hk:l.length=k)(I4:k<=cl)(B0:k<=100)(hM:Meas w)(hS:RawA w base L)(hl:RawI w bl l):
 Calls prog 23 #[.agg #[.int .i64 a,.int .i64 b,.int .i64 c,.int .i64 m,.slice base n cap],.slice bl k cl] w fun e w'=>e= .returned (.tuple #[.int .i64 (Z1M a b c m L l),.int .i64 (Zo a b c m L l)])/\Ext w w':=by
 have ho:=fun W hW=>Z3c a b c m base n cap L bl k cl l W A3 hn hk B0 (hM.ext hW) (hS.ext hW) (hl.ext hW)
 by_cases h:Zo a b c m L l=0
 ·obtain⟨hG,Aw,_⟩:=Z1n h;have hm:=fun W hW=>Z5X a b c m base n cap L bl k cl l W hG A3 hn hk I4 B0 (by rw[<-A3];exact Aw) (hM.ext hW) (hS.ext hW) (hl.ext hW)
  have hF:Z1M a b c m L l=Zr (apA a b c L l):=if_pos h;rw[h] at ho⊢;rw[hF];generalize Zr (apA a b c L l)=v at hm⊢;go_enter func23,ntmps23
  go_wp2_with (first
   |(go_at_call 86;refine(ho _ (by(repeat (with_reducible first|assumption|exact Ext.rfl' _|apply Ext.alloc|apply Ext.drew)))).mono ?_;rintro e w2 ⟨rfl,A8⟩
     have Av:Ext w w2:=Ext.trans (by(repeat (with_reducible first|assumption|exact Ext.rfl' _|apply Ext.alloc|apply Ext.drew))) A8)
   |(go_at_call 87;refine(hm _ (by(repeat (with_reducible first|assumption|exact Ext.rfl' _|apply Ext.alloc|apply Ext.drew)))).mono ?_;rintro e w3 ⟨rfl,Ar⟩))
  go_ret2;exact⟨rfl,Av.trans (Ext.trans ((Ext.rfl' _).alloc _) Ar)⟩
 ·have hF:Z1M a b c m L l=0:=if_neg h;have A9:(Zo a b c m L l !=0)=true:=by simpa using h
  rw[hF];generalize Zo a b c m L l=f at ho A9⊢;go_enter func23,ntmps23
  go_wp2_with (
   go_at_call 86;refine(ho _ (by(repeat (with_reducible first|assumption|exact Ext.rfl' _|apply Ext.alloc|apply Ext.drew)))).mono ?_;rintro e w2 ⟨rfl,A8⟩
   have Av:Ext w w2:=Ext.trans (by(repeat (with_reducible first|assumption|exact Ext.rfl' _|apply Ext.alloc|apply Ext.drew))) A8)
  go_ret2;exact⟨rfl,Av.alloc _⟩
end Go.Proofs.Tryq
namespace Go.Proofs.Tryq
set_option maxRecDepth 100000
set_option maxHeartbeats 1000000
open Go Go.Nk Go.RowKit
theorem u27:prog.underlying 27=some (.slice 3):=(underlying_eq 27).trans Tryz.underlying27
theorem i3:prog.info? 3=some Tryz.t3:=by kernel_rfl
theorem t3z:Tryz.t3.zero=some (.int .i64 0):=by kernel_rfl
theorem t3s:Tryz.t3.size=1:=by kernel_rfl
theorem t3b:Tryz.t3.bytes=8:=by kernel_rfl
def OwnI(b:Nat)(w:World)(v:Value)(l:List Int):Prop:=w.ownsRow b 3 1 v l.length (l.map (Value.int .i64))
theorem Z1N(w:World)(v:Value)(t:TypeId):∀(j:Nat)(u:Value),[v][j]? =some u->(w.alloc (.cells #[v] t)).cell? ((⟨w.heap.size,0,none⟩:Addr).add j)=some u:=by
 intro j u hu
 match j,hu with
 |0,hu=>
  obtain rfl:=YT hu;rw[Z0c,Z0 (by rw[Z3,if_pos rfl])];rfl
 |j+1,hu=>simp at hu
theorem bl_all:(List.range 256).all (fun s=>s==0||(bl s==tz s::bl (s&&& (s - 1))&&decide ((s&&& (s - 1))<s)&&bits .and .i64 (s:Int) ((s:Int) - 1)==((s&&& (s - 1):Nat):Int)))=true:=by kernel_rfl
theorem Zdu{s:Nat}(hs:s<256)(h0:0<s):bl s=tz s::bl (s&&& (s - 1))/\(s&&& (s - 1))<s/\bits .and .i64 (s:Int) ((s:Int) - 1)=((s&&& (s - 1):Nat):Int):=by
 have:=YL.1 bl_all s (YU.2 hs);simp only[Bool.or_eq_true,YG,beq_iff_eq,decide_eq_true_eq] at this;rcases this with h|h
 ·omega
 ·exact⟨h.1.1,h.1.2,h.2⟩
theorem Zeo(s:Nat):(bl s).length<=8:=by
 have:=List.length_filter_le (fun i=>s.testBit i) (List.range 8);simpa[bl] using this
theorem ZbS(k:Nat)(hk:k<256)(w:World)(hg:Deb w):Calls prog 158 #[.int .i64 k] w fun e w'=>∃v,e= .returned v/\OwnI w.heap.size w' v ((bl k).map fun(i:Nat)=>(i:Int))/\Ext w w':=by
 go_enter func158,ntmps158;go_wp2;go_loopw [0,3] (fun v0 v3 wr=>∃s:Nat,s<256/\∃pre:List Nat,bl k=pre++bl s/\v0= .int .i64 s/\OwnI w.heap.size wr v3 (pre.map fun(i:Nat)=>(i:Int))/\Ext w wr) (fun v0 _ _=>(intOf v0).toNat)
 case atStart=>exact⟨k,hk,[],rfl,rfl,World.ownsRow_nil _ _ _ _,Ext.rfl' w⟩
 case round=>
  rename_i v3 _;obtain⟨s,hs,pre,Ez,rfl,Ak,hE⟩:=hrel;by_cases h0:s=0
  ·subst h0;have S9:bl k=pre:=by rw[Ez];simp[bl]
   clear Ez;subst S9;go_wp2;go_ret;exact⟨_,rfl,Ak,hE⟩
  ·obtain⟨s',h1,h2,h3⟩:∃s':Nat,bl s=tz s::bl s'/\s'<s/\bits .and .i64 (s:Int) ((s:Int) - 1)=(s':Int):=⟨_,Zdu hs (by omega)⟩;have A3:pre.length+1<=8:=by
    have:=Zeo k;rw[Ez,h1] at this;simp at this;omega
   have H3:Hid (bl s=tz s::bl s'):=h1;have Hp:Hid (bl k=pre++bl s):=Ez;clear h1 Ez;have V4:(0:Int)<=(s:Int):=by omega
   have Cc:(s:Int)<256:=by omega
   have Cw:(0:Int)<=(s':Int):=by omega
   have A9:((s:Int) !=0)=true:=by simp;omega
   have htz:=fun w hg=>ZdZ s hs (by omega) w hg
   have hdw:=hg.ext hE
   go_wp2_with (first
    |(go_at_call 168;refine(htz _ hdw).mono ?_;rintro e wr ⟨rfl,rfl⟩)
    |(at_builtin
      refine wpList_append_own _ rfl _ _ _ rfl w.heap.size 3 Tryz.t3 (.int .i64 0) 1 8 u27 i3 t3z t3s t3b rfl (by omega) _ _ _ rfl (Ak.alloc _) ⟨wr.heap.size,0,none⟩ 1 1 [.int .i64 (tz s)] rfl rfl (Z1N _ _ _) (by intro u hu;simp at hu;subst hu;rfl) (by simp[maxLen];omega) (by simp;omega) (by have:=hE.size;simp;omega) ?_;intro v' w3 Al Ae _;have Av:Ext w w3:=(hE.alloc _).grown Ae (fun k hk=>(Ak.lt k hk).1)))
   go_roundw
   case rel=>exact⟨s',by omega,pre++[tz s],by rw[Hp,H3];simp,rfl,by simpa[OwnI] using Al,Av⟩
   case measure=>simp[intOf];omega
end Go.Proofs.Tryq
namespace Go.Proofs.Tryq
set_option maxRecDepth 100000
set_option maxHeartbeats 4000000
open Go Go.Nk Go.RowKit
attribute [local go_sem] Oper.semAt_some
theorem u35:prog.underlying 35=some (.slice 46):=(underlying_eq 35).trans Tryz.underlying35
theorem i46:prog.info? 46=some Tryz.t46:=by kernel_rfl
theorem t46z:Tryz.t46.zero=some (.agg #[.int .i64 0,.int .i64 0,.int .i64 0,.int .i64 0]):=by kernel_rfl
theorem t46s:Tryz.t46.size=4:=by kernel_rfl
theorem t46b:Tryz.t46.bytes=32:=by kernel_rfl
def apC(x:Ap):List Value:=[.int .i64 x.p,.int .i64 x.q,.int .i64 x.k,.int .i64 x.s]
def OwnAp(b:Nat)(w:World)(v:Value)(A:List Ap):Prop:=w.ownsRow b 46 4 v A.length (A.flatMap apC)
theorem Z05{w:World}{base base' size n:Nat}{e:TypeId}{v:Value}{xs:List Value}(h:w.ownsRow base e size v n xs)(hb:base'<=base):w.ownsRow base' e size v n xs:=
 ⟨h.1,h.2.imp id fun⟨g,cap,cur,h1,h2,h3⟩=>⟨g,cap,cur,h1,Nat.le_trans hb h2,h3⟩⟩
theorem Z6N(a b c:Int)(L:List Sf)(p q:Int)(k:Nat):(apE a b c L p q k).length<=1:=by
 unfold apE;split
 ·split<;>simp
 ·simp
theorem Zdv(a b c:Int)(L:List Sf)(p q:Int):(apP a b c L p q).length<=3:=by
 have h0:=Z6N a b c L p q 0;have h1:=Z6N a b c L p q 1;have h2:=Z6N a b c L p q 2;simp only[apP,List.length_append];omega
theorem Zaj(a b c:Int)(L:List Sf)(p:Int):∀t:List Int,(apR a b c L p t).length<=3*t.length
 |[]=>by simp[apR]
 |q::t=>by
  have h:=Zdv a b c L p q;have h2:=Zaj a b c L p t;simp only[apR,List.flatMap_cons,List.length_append,YP] at h2⊢;omega
theorem Z3K(a b c:Int)(L:List Sf)(n:Nat):∀l:List Int,l.length<=n->(apA a b c L l).length<=3*n*l.length
 |[],_=>by simp[apA]
 |p::t,h=>by
  have h1:=Zaj a b c L p t;have h2:=Z3K a b c L n t (by simp at h;omega);simp only[apA,List.length_append,YP] at h h1 h2⊢;have h3:3*n*(t.length+1)=3*n*t.length+3*n:=by rw[Nat.mul_add,Nat.mul_one]
  omega
theorem Z7G(w:World)(v0 v1 v2 v3:Value)(t:TypeId):∀(j:Nat)(u:Value),[v0,v1,v2,v3][j]? =some u->(w.alloc (.cells #[v0,v1,v2,v3] t)).cell? ((⟨w.heap.size,0,none⟩:Addr).add j)=some u:=by
 intro j u hu;rw[Z0c,Z0 (by rw[Z3,if_pos rfl])];simpa using hu
theorem Z4Z(a b c m:Int)(base:Option Addr)(n cap:Nat)(L:List Sf)(bl:Option Addr)(kl cl:Nat)(l:List Int)(sl ss:Nat)(w:World)
 (hG:Good a b c L)(A3:L.length=n)(hn:n<=20)(F0:l.length=kl)(I4:kl<=cl)(B0:kl<=100)(Aw:∀p∈l,0<=p/\p<n)
 (hM:Meas w)(hS:RawA w base L)(hI:RawI w bl l)
 (h2:w.heap[ss]? =some (.cells #[.int .i64 a,.int .i64 b,.int .i64 c,.int .i64 m,.slice base n cap] 120))(h3:w.heap[sl]? =some (.cells #[.slice bl kl cl] 27)):
 Calls prog 141 #[.slice none 0 0,.func (.func 142) #[] #[.pointer (some ⟨sl,0,none⟩),.pointer (some ⟨ss,0,none⟩)]] w fun e w'=>∃v,e= .returned v/\OwnAp w.heap.size w' v (apA a b c L l)/\Ext w w':=by
 have Xo:(apA a b c L l).length<=30000:=by
  have h:=Z3K a b c L 100 l (by omega);have:3*100*l.length<=30000:=by omega
  omega
 have Kv:=Z5 h2;have Vb:=Z5 h3;refine(callsIn_wide (n:=6)).1 ?_;refine callsIn_of_wp_marks func141 rfl trivial ?_ rfl;simp only[ntmps141,List.size_toArray,YP,List.length_nil,Nat.reduceAdd,Nat.reduceSub,Array.replicate_succ,Array.replicate_zero,List.push_toArray,List.append_toArray,YJ,YK]
 gi_wp2
 have As:Ext w (w.alloc (.cells #[.slice none 0 0] 35)):=(Ext.rfl' w).alloc _;have Az:(w.alloc (.cells #[.slice none 0 0] 35)).heap.size=w.heap.size+1:=Z2 _ _;have h1:(w.alloc (.cells #[.slice none 0 0] 35)).heap[w.heap.size]? =some (.cells #[.slice none 0 0] 35):=by rw[Z3,if_pos rfl]
 generalize w.alloc (.cells #[.slice none 0 0] 35)=w1 at As Az h1⊢;have B5:∀(W w':World),Ext w1 W->BelowX w1.heap.size w.heap.size W w'->Ext w w':=fun W w' h h'=>h'.ext (As.trans h) (by omega) (by omega)
 refine wpIn_rangeFunc_ownH rfl (by omega) (gf:=142) (lb:= #[.pointer (some ⟨sl,0,none⟩),.pointer (some ⟨ss,0,none⟩)]) rfl trivial (fun args w=>by simp[go_sem])
  (encs:=Zdt) (Kp:=BelowX w1.heap.size w.heap.size) (S:=fun xs=>xs=apA a b c L l) (Sp:=fun pre=>pre<+:apA a b c L l) (N:=(apA a b c L l).length) (w0:=w1)
  (fun yl J Jx W hW Xn hJx hY h0=>Z4f a b c m base n cap L bl kl cl l sl ss w1.heap.size w.heap.size yl J Jx
    (fun pre x W1 hJ hp=>hY pre x W1 hJ (by have:=hp.length_le;simp at this;omega)) W (fun pre u u' hu e=>Xn pre u u' none hu (Z3I e) (fun r h=>by cases h)) hG A3 hn F0 I4 B0 Aw
    ((hW.block _ (by omega)).trans (As.get h2)) ((hW.block _ (by omega)).trans (As.get h3)) hW.size (by omega) (by omega) (by omega) (by omega)
    (fun w' hX=>by have e:=B5 W w' ⟨hW.size,hW.block,hW.tape,hW.os,hW.output⟩ hX;exact⟨hM.ext e,hS.ext e,hI.ext e⟩) h0)
  (fun h h'=>h.trans h')
  (fun W l o o' hl ho _ _=>⟨rfl,rfl,rfl,by simp,fun k hk _=>World.putObj_heap_other (by omega)⟩)
  (Below.refl _ _) (fun _=>rfl)
  (fun pre W=>∃v,W.heap[w.heap.size]? =some (.cells #[v] 35)/\OwnAp w1.heap.size W v pre/\Ext w W/\w1.heap.size<=W.heap.size)
  (fun cd pre W=>False)
  ?hI ?hIx ⟨_,h1,World.ownsRow_nil _ _ _ _,As,Nat.le_refl _⟩
  (fun x a' W=>∃Bx,w1.heap.size<=Bx/\W.heap[Bx]? =some (.cells #[.int .i64 x.p,.int .i64 x.q,.int .i64 x.k,.int .i64 x.s] 46)/\a'={tmps:= #[.slice none 0 0,.func (.func 142) #[] #[.pointer (some ⟨sl,0,none⟩),.pointer (some ⟨ss,0,none⟩)],.pointer (some ⟨w.heap.size,0,none⟩),undef,.slice none 0 0,.pointer (some ⟨Bx,0,none⟩),.func (.func 142) #[] #[.pointer (some ⟨sl,0,none⟩),.pointer (some ⟨ss,0,none⟩)],.agg #[.int .i64 x.p,.int .i64 x.q,.int .i64 x.k,.int .i64 x.s],undef,undef,undef,undef,undef],defers:=[]})
  ?hAx ?assign ?body ?done ?stop
 case hI=>
  rintro pre W W' row ⟨v,g1,g2,g3,g4⟩ hg hr;have A9:∀k,v.ownBlock=some k->some k≠row:=by
   intro k hk e;obtain⟨c,hc⟩:∃c,W.heap[k]? =some (.cells c 46):=by
    rcases g2.2 with⟨rfl,_⟩|⟨g,cp,cur,rfl,_,hg',_⟩
    ·cases hk
    ·cases hk;exact⟨cur,hg'⟩
   obtain⟨_,o,ho,Bm⟩:=hr k e.symm;rw[hc] at ho;cases ho;cases Bm
  refine⟨v,(hg.block _ (by omega) (fun e=>by have:=(hr _ e.symm).1;omega)).trans g1,g2.kept hg ?_,⟨Nat.le_trans g3.size hg.size,fun k hk=>(hg.block k (YS hk g3.size) (fun e=>by have:=(hr _ e.symm).1;omega)).trans (g3.old k hk),hg.tape.trans g3.tape,hg.os.trans g3.os,hg.output.trans g3.output⟩,Nat.le_trans g4 hg.size⟩;cases hv:v.ownBlock with
  |none=>exact .inl rfl
  |some k=>exact .inr (A9 k hv)
 case hIx=>
  rintro cd pre W W' row h;exact h.elim
 case hAx=>
  rintro x a' _ W W' row ⟨Bx,g1,g2,g3⟩ hg hr;refine⟨Bx,g1,(hg.block _ (Z5 g2) (fun e=>by obtain⟨_,o,ho,hc⟩:=hr _ e.symm;rw[g2] at ho;cases ho;cases hc)).trans g2,g3⟩
 case assign=>
  rintro yl pre x W K ⟨v,g1,g2,g3,g4⟩ hK;simp only[Zdt,List.zip_toArray,List.zip_cons_cons,List.zip_nil_left,List.zip_nil_right,List.foldl_toArray',List.foldl_cons,List.foldl_nil,List.size_toArray,YP,List.length_nil,List.setIfInBounds_toArray,List.set_cons_zero,List.set_cons_succ,Nat.reduceAdd]
  gi_wp2
  refine hK _ _ ((KeepsOthers.alloc _ _).from _) (Z15 ((Ext.rfl' W).alloc _) g4) ⟨v,((Ext.rfl' W).alloc _).get g1,g2.alloc _,g3.trans ((Ext.rfl' W).alloc _),by simp only[Z2];omega⟩ ⟨W.heap.size,g4,by rw[Z3,if_pos rfl],rfl⟩
 case body=>
  rintro yl pre x a' W Pt ⟨r,hr⟩ ⟨v,g1,g2,g3,g4⟩ ⟨Bx,hBx,bX,rfl⟩ A4;have q0:=Z0 bX 0;have q1:=Z0 bX 1;have q2:=Z0 bX 2;have q3:=Z0 bX 3;have r0:=Z0 g1 0;simp only[YC,YA,YB] at q0 q1 q2 q3 r0
  gi_wp2_with (
   gi_at_builtin
   refine wpListIn_append_own _ rfl _ _ 35 rfl w1.heap.size 46 Tryz.t46 _ 4 32 u35 i46 t46z t46s t46b rfl (by decide) _ _ _ rfl (g2.alloc _) ⟨W.heap.size,0,none⟩ 1 1 (apC x) rfl rfl (Z7G _ _ _ _ _ _) (by intro u hu;simp only[apC,List.mem_cons,List.not_mem_nil,or_false] at hu;rcases hu with rfl|rfl|rfl|rfl<;>rfl) (by simp[maxLen];omega) (by omega) (by simp only[Z2];omega) ?_;intro v' w3 Al Ae _;obtain⟨g',cp',rfl,Sa,Sc⟩:=World.ownsRow.form Al (by omega);have Bb:(W.alloc (.cells #[.int .i64 x.p,.int .i64 x.q,.int .i64 x.k,.int .i64 x.s] 46)).grownBy w3 v.ownBlock:=Ae;have g13:w3.heap[w.heap.size]? =some (.cells #[v] 35):=Z0m Bb (fun e=>by have:=((g2.alloc (.cells #[.int .i64 x.p,.int .i64 x.q,.int .i64 x.k,.int .i64 x.s] 46)).lt _ e.symm).1;omega) (((Ext.rfl' W).alloc _).get g1);have r3:=Z0 g13 0;have f3:=Z8 g13 0;have Av:Ext w1 w3\/True:= .inr trivial;simp only[YC,YA] at r3)
  have Bm:∀(j:Nat)(o:Obj),v.ownBlock=some j->(W.alloc (.cells #[.int .i64 x.p,.int .i64 x.q,.int .i64 x.k,.int .i64 x.s] 46)).heap[j]? =some o->o.isCells=true:=by
   intro j o hj ho;rcases(g2.alloc (.cells #[.int .i64 x.p,.int .i64 x.q,.int .i64 x.k,.int .i64 x.s] 46)).2 with⟨rfl,_⟩|⟨g,cp,cur,rfl,_,hg',_⟩
   ·cases hj
   ·cases hj;rw[hg'] at ho;cases ho;rfl
  have An:∀k,v.ownBlock=some k->w1.heap.size<=k:=fun k hk=>(g2.lt k hk).1
  have hA:=Go.Conc.aside_setCell w3 ⟨w.heap.size,0,none⟩ (.slice (some ⟨g',0,none⟩) (pre.length+1) cp')
  refine⟨(((KeepsOthers.alloc _ _).trans (KeepsOthers.of_grownBy Bb Bm)).trans (KeepsOthers.setCell _ _ _)).from _,
   ⟨hA.os.trans Bb.os,hA.tape.trans Bb.tape,hA.output.trans Bb.output,by rw[hA.size];exact Nat.le_trans (by simp) Bb.size,fun k hk hn=> ?_⟩,
   ⟨_,Zb g13 _,by simpa[OwnAp] using Go.RowKit.ownsRow_setCell_below Al (a:=⟨w.heap.size,0,none⟩) (by simp only;omega) _,((g3.alloc _).grown Bb (fun k hk=>by have:=An k hk;omega)).setCell _ _ (Nat.le_refl _),by rw[hA.size];exact Nat.le_trans g4 (Nat.le_trans (by simp) Bb.size)⟩⟩
  exact(hA.block k hn).trans ((Bb.block k (by simp only[Z2];omega) (fun e=>by have:=An k e.symm;omega)).trans (((Ext.rfl' W).alloc _).old k (by omega)))
 case done=>
  rintro D xs W hD rfl ⟨v,g1,g2,g3,g4⟩ hK;have q0:=Z0 g1 0;simp only[YC,YA,YB] at q0
  gi_wp2
  refine⟨by simp,.inl ⟨_,_,rfl,run_takeDeferred hK,?_⟩⟩;exact⟨_,results_tmp rfl _ _ _,v,rfl,Z05 (ownsRow_putObj g2 _ hK rfl) (by omega),Zai g3 (by omega)⟩
 case stop=>
  rintro D cd pre W hD hp h hK;exact h.elim
theorem Z6O(a b c m:Int)(base:Option Addr)(n cap:Nat)(L:List Sf)(bl:Option Addr)(kl cl:Nat)(l:List Int)(sl ss:Nat)(w:World)
 (hG:Good a b c L)(A3:L.length=n)(hn:n<=20)(F0:l.length=kl)(I4:kl<=cl)(B0:kl<=100)(Aw:∀p∈l,0<=p/\p<n)
 (hM:Meas w)(hS:RawA w base L)(hI:RawI w bl l)
 (h2:w.heap[ss]? =some (.cells #[.int .i64 a,.int .i64 b,.int .i64 c,.int .i64 m,.slice base n cap] 120))(h3:w.heap[sl]? =some (.cells #[.slice bl kl cl] 27)):
 Calls prog 96 #[.func (.func 142) #[] #[.pointer (some ⟨sl,0,none⟩),.pointer (some ⟨ss,0,none⟩)]] w fun e w'=>∃v,e= .returned v/\OwnAp w.heap.size w' v (apA a b c L l)/\Ext w w':=by
 have hc:=Z4Z a b c m base n cap L bl kl cl l sl ss w hG A3 hn F0 I4 B0 Aw hM hS hI h2 h3;go_enter func96,ntmps96
 go_wp2_with (
  go_at_call 141;refine hc.mono ?_;rintro e w2 ⟨v,rfl,Ak,hE⟩)
 go_ret;exact⟨v,rfl,Ak,hE⟩
def Z0Q(a b c m:Int)(L:List Sf)(l:List Int):List Ap:=if Zo a b c m L l=0 then apA a b c L l else[]
theorem Z5Z(a b c m:Int)(base:Option Addr)(n cap:Nat)(L:List Sf)(bl:Option Addr)(k cl:Nat)(l:List Int)(w:World)(A3:L.length=n)(hn:n<=20)(hk:l.length=k)(I4:k<=cl)(B0:k<=100)(hM:Meas w)(hS:RawA w base L)(hl:RawI w bl l):
 Calls prog 27 #[.agg #[.int .i64 a,.int .i64 b,.int .i64 c,.int .i64 m,.slice base n cap],.slice bl k cl] w fun e w'=>∃v,e= .returned (.tuple #[v,.int .i64 (Zo a b c m L l)])/\OwnAp w.heap.size w' v (Z0Q a b c m L l)/\Ext w w':=by
 have ho:=fun W hW=>Z3c a b c m base n cap L bl k cl l W A3 hn hk B0 (hM.ext hW) (hS.ext hW) (hl.ext hW)
 by_cases h:Zo a b c m L l=0
 ·obtain⟨hG,Aw,_⟩:=Z1n h;have hm:=fun W hW sl ss=>Z6O a b c m base n cap L bl k cl l sl ss W hG A3 hn hk I4 B0 (by rw[<-A3];exact Aw) (hM.ext hW) (hS.ext hW) (hl.ext hW)
  have hF:Z0Q a b c m L l=apA a b c L l:=if_pos h;rw[h] at ho⊢;rw[hF];generalize apA a b c L l=A at hm⊢;go_enter func27,ntmps27
  go_wp2_with (first
   |(go_at_call 86;refine(ho _ (by(repeat (with_reducible first|assumption|exact Ext.rfl' _|apply Ext.alloc|apply Ext.drew)))).mono ?_;rintro e w2 ⟨rfl,A8⟩
     have Av:Ext w w2:=Ext.trans (by(repeat (with_reducible first|assumption|exact Ext.rfl' _|apply Ext.alloc|apply Ext.drew))) A8)
   |(go_at_call 97;refine(Z5W _ _ _ _ _ _ _ _ _ _ _).mono ?_;rintro e w3 ⟨rfl,Cs⟩
     have Ar:Ext w w3:=(by rw[Cs];exact(by(repeat (with_reducible first|assumption|exact Ext.rfl' _|apply Ext.alloc|apply Ext.drew))));have g1:w3.heap[w2.heap.size+1]? =some (.cells #[.int .i64 a,.int .i64 b,.int .i64 c,.int .i64 m,.slice base n cap] 120):=by
      rw[Cs];simp only[Z3,Z2];rw[if_neg (by omega),if_pos trivial]
     have g2:w3.heap[w2.heap.size+1+1]? =some (.cells #[.slice bl k cl] 27):=by
      rw[Cs];simp only[Z3,Z2];rw[if_pos trivial]
     clear Cs)
   |(go_at_call 96;refine(hm _ Ar _ _ g1 g2).mono ?_;rintro e w4 ⟨v,rfl,Ak,B4⟩))
  go_ret2;exact⟨v,rfl,Z05 Ak Ar.size,Ar.trans B4⟩
 ·have hF:Z0Q a b c m L l=[]:=if_neg h;have A9:(Zo a b c m L l !=0)=true:=by simpa using h
  rw[hF];generalize Zo a b c m L l=f at ho A9⊢;go_enter func27,ntmps27
  go_wp2_with (
   go_at_call 86;refine(ho _ (by(repeat (with_reducible first|assumption|exact Ext.rfl' _|apply Ext.alloc|apply Ext.drew)))).mono ?_;rintro e w2 ⟨rfl,A8⟩
   have Av:Ext w w2:=Ext.trans (by(repeat (with_reducible first|assumption|exact Ext.rfl' _|apply Ext.alloc|apply Ext.drew))) A8)
  go_ret2;exact⟨_,rfl,World.ownsRow_nil _ _ _ _,Av.alloc _⟩
end Go.Proofs.Tryq
namespace Go.Proofs.Tryq
set_option maxRecDepth 100000
set_option maxHeartbeats 1000000
open Go Go.Nk Go.RowKit
theorem OwnI.form{b:Nat}{w:World}{v:Value}{l:List Int}(h:OwnI b w v l)(hl:0<l.length):∃g cap,v= .slice (some ⟨g,0,none⟩) l.length cap/\b<=g/\g<w.heap.size:=World.ownsRow.form h hl
theorem OwnI.raw{b:Nat}{w:World}{g n cap:Nat}{l:List Int}(h:OwnI b w (.slice (some ⟨g,0,none⟩) n cap) l):RawI w (some ⟨g,0,none⟩) l:=by
 intro i x hx;refine⟨g,0,rfl,(h.lt g rfl).2,?_⟩;have:=h.cells (g:=g) rfl i (.int .i64 x) (by rw[List.getElem?_map,hx];rfl);rw[Z0c] at this;rw[Nat.zero_add];exact this
theorem OwnI.le{b b':Nat}{w:World}{v:Value}{l:List Int}(h:OwnI b w v l)(hb:b'<=b):OwnI b' w v l:=Z05 h hb
theorem Z60(g n cap:Nat)(l:List Int)(w:World)(hn:l.length=n)(h0:0<n)(h1:n<=100)(Df:n<=cap)(hg:g<w.heap.size)(hc:∀(j:Nat) u,(l.map (Value.int .i64))[j]? =some u->w.cell? ⟨g,j,none⟩=some u):
 Calls prog 101 #[.slice (some ⟨g,0,none⟩) n cap] w fun e w'=>∃g' cap',e= .returned (.slice (some ⟨g',0,none⟩) n cap')/\OwnI w.heap.size w' (.slice (some ⟨g',0,none⟩) n cap') l/\Ext w w':=by
 have hb:∀w,(binOp .eql 27 (.slice (some ⟨g,0,none⟩) n cap) (.slice none 0 0)).run prog w= .ok (.bool false) w:=fun w=>by
  simp[go_sem,binOp,run_equal_slice_nil w 27 3 _ n cap u27]
 have hX:∀(j:Nat) u,(l.map (Value.int .i64))[j]? =some u->(w.alloc (.cells #[] 3)).cell? ((⟨g,0,none⟩:Addr).add j)=some u:=by
  intro j u hu;have e:(⟨g,0,none⟩:Addr).add j=⟨g,j,none⟩:=by rw[Z0c]
  rw[e];exact((Ext.rfl' w).alloc _).cellS (hc j u hu)
 go_enter func101,ntmps101
 go_wp2_with (
  at_builtin
  refine wpList_append_own _ rfl _ _ _ rfl w.heap.size 3 Tryz.t3 (.int .i64 0) 1 8 u27 i3 t3z t3s t3b rfl (by omega) _ 0 [] rfl (Z6s w w.heap.size 3 #[] 0 w.heap.size rfl (Nat.le_refl _) rfl (by simp)) ⟨g,0,none⟩ n cap (l.map (Value.int .i64)) rfl (by simp[hn]) hX (by intro u hu;obtain⟨x,_,rfl⟩:=List.mem_map.1 hu;rfl) (by simp[maxLen];omega) (by omega) (by simp) ?_;intro v' w3 Al Ae _;replace Al:w3.ownsRow w.heap.size 3 1 v' n (l.map (Value.int .i64)):=by simpa using Al
  obtain⟨g',cp',rfl,Sa,Sc⟩:=World.ownsRow.form Al (by omega);have Bb:(w.alloc (.cells #[] 3)).grownBy w3 (some w.heap.size):=Ae;have Av:Ext w w3:=((Ext.rfl' w).alloc _).grown Bb (fun k hk=>by cases hk;exact Nat.le_refl _))
 go_ret;exact⟨g',cp',rfl,by subst hn;exact Al,Av⟩
theorem Z1V(a0:Option Addr)(n0 c0:Nat)(a1:Option Addr)(n1 c1:Nat)(w:World):
 Calls prog 146 #[.slice a0 n0 c0,.slice a1 n1 c1] w fun e w'=>e= .returned (if n0<n1 then .slice a1 n1 c1 else .slice a0 n0 c0)/\w'=w:=by
 by_cases h:n0<n1
 ·rw[if_pos h];go_enter func146,ntmps146;go_wp2;go_ret;exact⟨rfl,rfl⟩
 ·rw[if_neg h];go_enter func146,ntmps146;go_wp2;go_ret;exact⟨rfl,rfl⟩
end Go.Proofs.Tryq
namespace Go.Proofs.Tryq
open Go Go.Nk Go.RowKit
theorem Z0I{P:Program}(w:World){ops:Array Oper}{rest:List Oper}{o:Oper}{a:Act}{Q:Exit->Act->World->Prop}
 (hg:o.guard=none)(s x:Operand)(t:TypeId)(A1:o.op=Op.call {callee:=Callee.builtin Builtin.append,args:= #[s,x],argTypes:= #[t,t]})
 (base:Nat)(e:TypeId)(i:TypeInfo)(z:Value)(size bytes:Nat)(h1:P.underlying t=some (.slice e))(h2:P.info? e=some i)(h3:i.zero=some z)(h4:i.size=size)(h5:i.bytes=bytes)(h6:z.cells.size=size)(h7:0<size)
 (v:Value)(k:Nat)(xs:List Value)(hs:a.eval s=v)(Ak:w.ownsRow base e size v k xs)(ad:Addr)(m c:Nat)(news:List Value)(hx:a.eval x= .slice (some ad) m c)(hn:news.length=m*size)
 (hc:∀j u,news[j]? =some u->w.cell? (ad.add j)=some u)(Sd:∀u∈news,u.oneCell'=true)(hm:0<m)(b1:k+m<=maxLen)(b2:(k+m)*bytes<=140737488355328)(b3:base<=w.heap.size)
 (hK:∀g' cap' w',w'.ownsRow base e size (.slice (some ⟨g',0,none⟩) (k+m) cap') (k+m) (xs++news)->w.grownBy w' v.ownBlock->w'.ownsRow base e size v k xs->(v= .slice (some ⟨g',0,none⟩) k cap'\/w.heap.size<=g')->
   wpList P ops Q rest (a.put o.dst (.slice (some ⟨g',0,none⟩) (k+m) cap')) w'):
 wpList P ops Q (o::rest) a w:=by
 have M7:∀(w':World),w.grownBy w' none->w.grownBy w' v.ownBlock:=fun w' h=>⟨h.os,h.tape,h.output,h.size,fun b hb _=>h.block b hb (fun e=>by cases e)⟩
 have Cr:∀(v':Value)(w':World),w'.ownsRow w.heap.size e size v' (k+m) (xs++news)->w.grownBy w' none->wpList P ops Q rest (a.put o.dst v') w':=by
  intro v' w' ho hg;obtain⟨g',cap',rfl,hb,_⟩:=World.ownsRow.form ho (by omega);exact hK g' cap' w' (Z05 ho b3) (M7 w' hg) (Ak.kept hg (by cases h:v.ownBlock with|none=>exact .inl rfl|some q=>exact .inr (by simp))) (.inr hb)
 have Ib:=Ak.1;rcases Ak.2 with⟨rfl,rfl⟩|⟨g,cap,cur,rfl,Xp,Uw,I4,Pr,Ad,J1⟩
 ·exact wpList_append_grows w hg s x t A1 e i z size bytes h1 h2 h3 h4 h5 h6 h7 none 0 0 xs hs (fun _=>⟨rfl,rfl⟩) Ib (fun b hb=>by cases hb) ad m c news hx hn hc Sd (by omega) b1 b2 Cr
 ·by_cases hr:k+m<=cap
  ·refine wpList_append_fits w hg s x t A1 base e i size h1 h2 h4 g k cap xs hs Ak ad m c news hx hn hc Sd hr ?_;intro w' ho hg';refine hK g cap w' ho hg' ⟨Ib,.inr ?_⟩ (.inl rfl);rcases ho.2 with⟨h,_⟩|⟨g2,cap2,cur2,he,Ao,Kw,B0,Dq,Cw,Nd⟩
   ·cases h
   ·cases he;refine⟨g,cap,cur2,rfl,Xp,Kw,I4,Pr,Cw,?_⟩;have h8:(cur2.toList.take ((k+m)*size)).take (k*size)=xs:=(by rw[Nd];rw[<-Ib];exact List.take_left);rw[List.take_take,Nat.min_eq_left (Nat.mul_le_mul_right _ (Nat.le_add_right _ _))] at h8;exact h8
  ·exact wpList_append_grows w hg s x t A1 e i z size bytes h1 h2 h3 h4 h5 h6 h7 (some ⟨g,0,none⟩) k cap xs hs (fun h=>by cases h) Ib (fun b hb j u hj=>by cases hb;exact Ak.cells (g:=g) rfl j u hj) ad m c news hx hn hc Sd (by omega) b1 b2 Cr
end Go.Proofs.Tryq
