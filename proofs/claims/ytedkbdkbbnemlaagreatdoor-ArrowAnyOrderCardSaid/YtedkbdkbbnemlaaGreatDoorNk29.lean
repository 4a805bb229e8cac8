import Derived.Test.YtedkbdkbbnemlaaGreatDoorNk28
import Derived.Deep.AppendLies
set_option linter.all false
namespace Go.Proofs.Tryq
set_option maxRecDepth 100000
set_option maxHeartbeats 2000000
open Go Go.Nk Go.RowKit
def Z1B(L:List Sf):Bool:=decide (20<L.length)||L.any fun x=>decide (100<x.nm.size)
theorem ZaR(a b c m:Int)(base:Option Addr)(n cap:Nat)(L:List Sf)(w:World)(A2:L.length=n)(hS:RawA w base L):
 Calls prog 21 #[.agg #[.int .i64 a,.int .i64 b,.int .i64 c,.int .i64 m,.slice base n cap]] w fun e w'=>e= .returned (.bool (Z1B L))/\Ext w w':=by
 by_cases Mx:20<L.length
 ·have hz:Z1B L=true:=by rw[Z1B,decide_eq_true Mx,Bool.true_or]
  have hn:(20:Int)<(n:Int):=by omega
  rw[hz];clear Mx hz;go_enter func21,ntmps21;go_wp2;go_ret;exact⟨rfl,(Ext.rfl' w).alloc _⟩
 ·have hn:(n:Int)<=20:=by omega
  have H:Hid (Z1B L=(L.drop 0).any fun x=>decide (100<x.nm.size)):=by show _=_;rw[Z1B,decide_eq_false Mx,Bool.false_or];rfl
  clear Mx;go_enter func21,ntmps21;go_wp2;go_loopw [3] (fun v wr=>∃i:Nat,i<=n/\v= .int .i64 i/\wr.heap[w.heap.size]? =some (.cells #[.int .i64 a,.int .i64 b,.int .i64 c,.int .i64 m,.slice base n cap] 26)/\Ext w wr/\Hid (Z1B L=(L.drop i).any fun x=>decide (100<x.nm.size))) (fun v _=>n - (intOf v).toNat)
  case atStart=>exact⟨0,Nat.zero_le _,rfl,by rw[Z3,if_pos rfl],(Ext.rfl' w).alloc _,H⟩
  case round=>
   obtain⟨i,hi,rfl,hr,hE,hH⟩:=hrel;clear H;have q4:=Z0 hr 4;simp only[List.getElem?_toArray,List.getElem?_cons_zero,List.getElem?_cons_succ] at q4;by_cases Al:i=n
   ·subst Al;have hz:Z1B L=false:=(by rw[hH.out,<-A2,List.drop_length];rfl);go_wp2;go_ret;exact⟨ZP (a:=false) hz.symm,hE⟩
   ·have A3:i<n:=(by omega);obtain⟨x,hx⟩:∃x,L[i]? =some x:=⟨_,List.getElem?_eq_getElem (by omega)⟩;obtain⟨b',off,rfl,hb,hs,Jb⟩:=(hS.ext hE) i x hx;have k0:=hs.1;have Ab:Hid (Z1B L=(decide (100<x.nm.size)||(L.drop (i+1)).any fun x=>decide (100<x.nm.size))):=(by show _=_;rw[hH.out,Z0b hx,List.any_cons]);clear hH hx;unfold maxLen at Jb;have F0:¬n<=i:=(by omega);by_cases h1:100<x.nm.size
    ·have hz:Z1B L=true:=(by rw[Ab.out,decide_eq_true h1,Bool.true_or]);have h1':(100:Int)<(x.nm.size:Int):=(by omega);clear Ab h1;go_wp2;go_ret;exact⟨ZP (a:=true) hz.symm,hE⟩
    ·have Ek:Hid (Z1B L=(L.drop (i+1)).any fun x=>decide (100<x.nm.size)):=(by show _=_;rw[Ab.out,decide_eq_false h1,Bool.false_or]);have h1':(x.nm.size:Int)<=100:=(by omega);clear Ab h1;go_wp2;exact⟨⟨i+1,by omega,by push_cast;rfl,hr,hE,Ek⟩,by simp[intOf];omega⟩
def Zfc(a b c m:Int)(L:List Sf):Bool:= !Z1B L&&(Zp a b c m L==0)
theorem Zfd(a b c m:Int)(base:Option Addr)(n cap:Nat)(L:List Sf)(w:World)(A2:L.length=n)(hS:RawA w base L):
 Calls prog 30 #[.agg #[.int .i64 a,.int .i64 b,.int .i64 c,.int .i64 m,.slice base n cap]] w fun e w'=>e= .returned (.bool (Zfc a b c m L))/\Ext w w':=by
 have Lc:=fun W hW=>ZaR a b c m base n cap L W A2 (hS.ext hW)
 cases hg:Z1B L with
 |true=>
  have hf:Zfc a b c m L=false:=by simp[Zfc,hg]
  simp only[hg] at Lc;rw[hf];go_enter func30,ntmps30
  go_wp2_with (first
   |(go_at_call 21;refine(Lc _ ((Ext.rfl' w).alloc _)).mono ?_;rintro e w2 ⟨rfl,A7⟩
     have As:=((Ext.rfl' w).alloc _).trans A7))
  go_ret;exact⟨rfl,As⟩
 |false=>
  have hn:n<=20:=by
   rw[<-A2];simp only[Z1B,Bool.or_eq_false_iff,decide_eq_false_iff_not] at hg;omega
  have hf:Zfc a b c m L=(Zp a b c m L==0):=by simp[Zfc,hg]
  simp only[hg] at Lc;have hc:=fun W hW=>Z1P a b c m base n cap L W A2 (by omega) (hS.ext hW)
  rw[hf];clear hg hf;go_enter func30,ntmps30
  go_wp2_with (first
   |(go_at_call 21;refine(Lc _ ((Ext.rfl' w).alloc _)).mono ?_;rintro e w2 ⟨rfl,A7⟩
     have As:=((Ext.rfl' w).alloc _).trans A7;have hb:=A7.get (b:=w.heap.size) (o:= .cells #[.int .i64 a,.int .i64 b,.int .i64 c,.int .i64 m,.slice base n cap] 26) ((Z3 _ _ _).trans (if_pos rfl));have q0:=Z0 hb 0;have q1:=Z0 hb 1;have q2:=Z0 hb 2;have q3:=Z0 hb 3;have q4:=Z0 hb 4;simp only[List.getElem?_toArray,List.getElem?_cons_zero,List.getElem?_cons_succ] at q0 q1 q2 q3 q4)
   |(go_at_call 26;refine(hc _ As).mono ?_;rintro e w3 ⟨rfl,Ar⟩))
  go_ret;exact⟨rfl,As.trans Ar⟩
def Zfg(v:Int)(i:Nat):Bool:=bits BinOp.and IntKind.u16 (v / 2 ^ min i 16) 1==1
def ZeL(v:Int)(n:Nat):List Int:=((List.range n).filter (Zfg v)).map fun(i:Nat)=>(i:Int)
theorem ZeH(v:Int)(i:Nat):ZeL v (i+1)=ZeL v i++(if Zfg v i then[(i:Int)] else[]):=by
 unfold ZeL;rw[List.range_succ,List.filter_append,List.map_append];congr 1;cases h:Zfg v i<;>simp[h]
theorem ZeN(v:Int)(i:Nat):(ZeL v i).length<=i:=by
 have:=List.length_filter_le (Zfg v) (List.range i);simpa[ZeL] using this
theorem ZeT(a b c m v:Int)(base:Option Addr)(n cap:Nat)(w:World)(hn:n<=20)(hv:0<=v/\v<65536):
 Calls prog 31 #[.agg #[.int .i64 a,.int .i64 b,.int .i64 c,.int .i64 m,.slice base n cap],.int .u16 v] w fun e w'=>∃x,e= .returned x/\OwnI w.heap.size w' x (ZeL v n)/\Ext w w':=by
 have C6:=(Ext.rfl' w).alloc (.cells #[.int .i64 a,.int .i64 b,.int .i64 c,.int .i64 m,.slice base n cap] 26);have Fi:(w.alloc (.cells #[.int .i64 a,.int .i64 b,.int .i64 c,.int .i64 m,.slice base n cap] 26)).heap[w.heap.size]? =some (.cells #[.int .i64 a,.int .i64 b,.int .i64 c,.int .i64 m,.slice base n cap] 26):=by rw[Z3,if_pos rfl]
 obtain⟨N,hN⟩:∃N,N=w.heap.size+1:=⟨_,rfl⟩;go_enter func31,ntmps31;go_wp2;go_loopw [5,6] (fun v5 v6 wr=>∃i:Nat,i<=n/\v6= .int .i64 i/\wr.heap[w.heap.size]? =some (.cells #[.int .i64 a,.int .i64 b,.int .i64 c,.int .i64 m,.slice base n cap] 26)/\OwnI N wr v5 (ZeL v i)/\Ext w wr) (fun _ v6 _=>n - (intOf v6).toNat)
 case atStart=>exact⟨0,Nat.zero_le _,rfl,Fi,World.ownsRow_nil _ _ _ _,C6⟩
 case round=>
  rename_i v5 _;obtain⟨i,hi,rfl,hr,Ae,hE⟩:=hrel;have q4:=Z0 hr 4;simp only[List.getElem?_toArray,List.getElem?_cons_zero,List.getElem?_cons_succ] at q4;clear C6 Fi;by_cases h0:i=n
  ·subst h0;go_wp2;go_ret;exact⟨_,rfl,Ae.le (by omega),hE⟩
  ·have A3:i<n:=by omega
   have D8:(i:Int)<(n:Int):=by omega
   have N9:=ZeN v i;have Ab:=ZeH v i;have hs:=hE.size;have Cw:=Z5 hr;obtain⟨l,hl⟩:∃l,l=ZeL v i:=⟨_,rfl⟩;rw[<-hl] at Ae N9 Ab;clear hl;cases hb:Zfg v i with
   |true=>
    have Ah:(bits BinOp.and IntKind.u16 (v / 2 ^ min i 16) 1==1)=true:=hb;rw[hb,if_pos rfl] at Ab;have H3:Hid (ZeL v (i+1)=l++[(i:Int)]):=Ab;clear Ab hb
    go_wp2_with (
     at_builtin
     generalize Value.int IntKind.u16 (bits BinOp.and IntKind.u16 (v / 2 ^ min i 16) 1)=q1;generalize Value.int IntKind.u16 (v / 2 ^ min i 16)=q2;refine wpList_append_own _ rfl _ _ _ rfl N 3 Tryz.t3 (.int .i64 0) 1 8 u27 i3 t3z t3s t3b rfl (by omega) _ _ _ rfl (Ae.alloc _) ⟨wr.heap.size,0,none⟩ 1 1 [.int .i64 i] rfl rfl (Z1N _ _ _) (by intro u hu;simp at hu;subst hu;rfl) (by(try simp[maxLen]);omega) (by(try simp);omega) (by(try simp only[Z2]);omega) ?_;intro v' w3 Ao Ac _;have As:Ext w w3:=(hE.alloc _).grown Ac (fun k hk=>by have:=(Ae.lt k hk).1;omega);have Dz:=(Ac.block w.heap.size (by(try simp only[Z2]);omega) (by intro e;have:=(Ae.lt _ e.symm).1;omega)).trans (((Z3 wr _ w.heap.size).trans (if_neg (by omega))).trans hr))
    go_roundw
    case rel=>exact⟨i+1,by omega,by push_cast;rfl,Dz,by rw[H3.out];simpa[OwnI] using Ao,As⟩
    case measure=>simp[intOf];omega
   |false=>
    have Ah:(bits BinOp.and IntKind.u16 (v / 2 ^ min i 16) 1==1)=false:=hb;rw[hb] at Ab;have H3:Hid (ZeL v (i+1)=l):=(by rw[Hid,Ab];simp);clear Ab hb;go_wp2;go_roundw
    case rel=>exact⟨i+1,by omega,by push_cast;rfl,hr,by rw[H3.out];exact Ae,hE⟩
    case measure=>simp[intOf];omega
end Go.Proofs.Tryq
namespace Go.Proofs.Tryq
open Go Go.Nk Go.RowKit
set_option linter.all false
theorem ZeO(n:Nat):∀(l:List Int)(o:Option Int),(∀y,o=some y->∀x∈l,y<x)->l.Pairwise (·<·)->(∀x∈l,0<=x/\x<n)->Z1k n o l=0
 |[],_,_,_,_=>rfl
 |x::t,o,h1,h2,h3=>by
  rw[Z8y];have hx:=h3 x (List.mem_cons_self ..);rw[if_neg (by simp only[Decidable.not_not];omega)];obtain⟨h4,h5⟩:=List.pairwise_cons.1 h2;have ih:=ZeO n t (some x) (fun y e z hz=>by injection e with e;subst e;exact h4 z hz) h5 (fun z hz=>h3 z (List.mem_cons_of_mem _ hz));cases o with
  |none=>simpa using ih
  |some y=>
   have h6:=h1 y rfl x (List.mem_cons_self ..);have h7:decide (x<=y)=false:=by simp only[decide_eq_false_iff_not];omega
   simpa[h7] using ih
theorem ZeE{n:Nat}{l:List Int}(h2:l.Pairwise (·<·))(h3:∀x∈l,0<=x/\x<n):Zq n l=0:=
 ZeO n l none (fun y e=>by cases e) h2 h3
theorem ZeY(v:Int)(n:Nat):(ZeL v n).Pairwise (·<·)/\∀x∈ZeL v n,0<=x/\x<n:=by
 induction n with
 |zero=>exact⟨List.Pairwise.nil,fun x hx=>by cases hx⟩
 |succ n ih=>
  rw[ZeH];cases hb:Zfg v n with
  |false=>
   simp only[Bool.false_eq_true,if_false,List.append_nil];exact⟨ih.1,fun x hx=>by have:=ih.2 x hx;omega⟩
  |true=>
   simp only[if_true];refine⟨List.pairwise_append.2 ⟨ih.1,List.pairwise_singleton _ _,fun x hx y hy=> ?_⟩,fun x hx=> ?_⟩
   ·rw[List.mem_singleton.1 hy];exact(ih.2 x hx).2
   ·rcases List.mem_append.1 hx with h|h
    ·have:=ih.2 x h;omega
    ·rw[List.mem_singleton.1 h];omega
theorem Zew(v:Int)(n:Nat):Zq n (ZeL v n)=0:=ZeE (ZeY v n).1 (ZeY v n).2
theorem Zfe{a b c:Int}{L:List Sf}{u:Ap}:∀{l:List Int},u∈apA a b c L l↔∃(i j:Nat)(x y:Int),i<j/\l[i]? =some x/\l[j]? =some y/\u∈apP a b c L x y
 |[]=>⟨fun h=>(by cases h),fun⟨i,j,x,y,_,hx,_⟩=>by simp at hx⟩
 |p::t=>by
  rw[show apA a b c L (p::t)=apR a b c L p t++apA a b c L t from rfl,List.mem_append,Zfe (l:=t)];constructor
  ·rintro(h|⟨i,j,x,y,E2,hx,hy,hu⟩)
   ·obtain⟨y,hy,hu⟩:=List.mem_flatMap.1 h;obtain⟨j,hj⟩:=List.mem_iff_getElem?.1 hy;exact⟨0,j+1,p,y,by omega,rfl,by simpa using hj,hu⟩
   ·exact⟨i+1,j+1,x,y,by omega,by simpa using hx,by simpa using hy,hu⟩
  ·rintro⟨i,j,x,y,E2,hx,hy,hu⟩;obtain⟨j,rfl⟩:∃j',j=j'+1:=⟨j - 1,by omega⟩;rw[List.getElem?_cons_succ] at hy;cases i with
   |zero=>
    rw[List.getElem?_cons_zero] at hx;injection hx with e;subst e;exact .inl (List.mem_flatMap.2 ⟨y,List.mem_of_getElem? hy,hu⟩)
   |succ i=>
    rw[List.getElem?_cons_succ] at hx;exact .inr ⟨i,j,x,y,by omega,hx,hy,hu⟩
theorem Zeu{a b c m:Int}{L:List Sf}(hs:Zp a b c m L=0){l:List Int}(hz:Zq L.length l=0):Z1M a b c m L l=Zr (apA a b c L l):=if_pos (by rw[Zo,hs,hz];rfl)
theorem Zez{A:List Ap}:Zr A=2↔∃u∈A,u.s=2:=by
 unfold Zr;split
 ·rename_i h;obtain⟨u,hu,h2⟩:=List.any_eq_true.1 h;exact⟨fun _=>⟨u,hu,by simpa using h2⟩,fun _=>rfl⟩
 ·rename_i h;constructor
  ·intro h2;split at h2<;>simp at h2
  ·rintro⟨u,hu,h2⟩;exact absurd (List.any_eq_true.2 ⟨u,hu,by simpa using h2⟩) h
set_option linter.all false
theorem mem_apP{a b c:Int}{L:List Sf}{u:Ap}{p q:Int}:u∈apP a b c L p q↔∃x y,L[p.toNat]? =some x/\L[q.toNat]? =some y/\∃k:Nat,k<3/\Z1m a b c x y k≠1/\u=⟨p,q,k,Z1m a b c x y k⟩:=by
 have key:∀k:Nat,u∈apE a b c L p q k↔∃x y,L[p.toNat]? =some x/\L[q.toNat]? =some y/\Z1m a b c x y k≠1/\u=⟨p,q,k,Z1m a b c x y k⟩:=by
  intro k;unfold apE;cases h1:L[p.toNat]? with
  |none=>simp
  |some x=>
   cases h2:L[q.toNat]? with
   |none=>simp
   |some y=>
    simp only[Option.some.injEq];split
    ·rename_i h;simp[h]
    ·rename_i h;simp[h]
 simp only[apP,List.mem_append,key];constructor
 ·rintro(⟨x,y,h1,h2,h3,h4⟩|⟨x,y,h1,h2,h3,h4⟩|⟨x,y,h1,h2,h3,h4⟩)
  ·exact⟨x,y,h1,h2,0,by omega,h3,h4⟩
  ·exact⟨x,y,h1,h2,1,by omega,h3,h4⟩
  ·exact⟨x,y,h1,h2,2,by omega,h3,h4⟩
 ·rintro⟨x,y,h1,h2,k,hk,h3,h4⟩;obtain rfl|rfl|rfl:k=0\/k=1\/k=2:=by omega
  ·exact .inl ⟨x,y,h1,h2,h3,h4⟩
  ·exact .inr (.inl ⟨x,y,h1,h2,h3,h4⟩)
  ·exact .inr (.inr ⟨x,y,h1,h2,h3,h4⟩)
def Two(L:List Sf)(l:List Int)(p q:Int)(x y:Sf):Prop:=p∈l/\q∈l/\p<q/\L[p.toNat]? =some x/\L[q.toNat]? =some y
theorem Zlz{a b c:Int}{L:List Sf}{l:List Int}(hl:l.Pairwise (·<·)){u:Ap}:u∈apA a b c L l↔∃p q x y,Two L l p q x y/\∃k:Nat,k<3/\Z1m a b c x y k≠1/\u=⟨p,q,k,Z1m a b c x y k⟩:=by
 rw[Zfe];constructor
 ·rintro⟨i,j,p,q,E2,hp,hq,hu⟩;obtain⟨x,y,hx,hy,hk⟩:=mem_apP.1 hu;refine⟨p,q,x,y,⟨List.mem_of_getElem? hp,List.mem_of_getElem? hq,?_,hx,hy⟩,hk⟩;obtain⟨h1,e1⟩:=List.getElem?_eq_some_iff.1 hp;obtain⟨h2,e2⟩:=List.getElem?_eq_some_iff.1 hq;have:=List.pairwise_iff_getElem.1 hl i j h1 h2 E2;rw[e1,e2] at this;exact this
 ·rintro⟨p,q,x,y,⟨hp,hq,Lj,hx,hy⟩,hk⟩;obtain⟨i,hi⟩:=List.mem_iff_getElem?.1 hp;obtain⟨j,hj⟩:=List.mem_iff_getElem?.1 hq;refine⟨i,j,p,q,?_,hi,hj,mem_apP.2 ⟨x,y,hx,hy,hk⟩⟩;obtain⟨h1,e1⟩:=List.getElem?_eq_some_iff.1 hi;obtain⟨h2,e2⟩:=List.getElem?_eq_some_iff.1 hj;rcases Nat.lt_trichotomy i j with h|h|h
  ·exact h
  ·subst h;rw[e1] at e2;omega
  ·have:=List.pairwise_iff_getElem.1 hl j i h2 h1 h;rw[e1,e2] at this;omega
theorem Zlp{a b c:Int}{L:List Sf}{l:List Int}(hl:l.Pairwise (·<·)):Zr (apA a b c L l)=1↔∀p q x y,Two L l p q x y->∀k:Nat,k<3->Z1m a b c x y k=1:=by
 rw[Zey];constructor
 ·intro h p q x y ht k hk;refine Classical.byContradiction fun hn=> ?_
  have:=(Zlz (a:=a) (b:=b) (c:=c) hl).2 ⟨p,q,x,y,ht,k,hk,hn,rfl⟩;rw[h] at this;cases this
 ·intro h;refine List.eq_nil_iff_forall_not_mem.2 fun u hu=> ?_
  obtain⟨p,q,x,y,ht,k,hk,hn,_⟩:=(Zlz hl).1 hu;exact hn (h p q x y ht k hk)
theorem ZlS{a b c:Int}{L:List Sf}{l:List Int}(hl:l.Pairwise (·<·)):Zr (apA a b c L l)=2↔∃p q x y,Two L l p q x y/\∃k:Nat,k<3/\Z1m a b c x y k=2:=by
 rw[Zez];constructor
 ·rintro⟨u,hu,h2⟩;obtain⟨p,q,x,y,ht,k,hk,_,rfl⟩:=(Zlz hl).1 hu;exact⟨p,q,x,y,ht,k,hk,h2⟩
 ·rintro⟨p,q,x,y,ht,k,hk,h2⟩;exact⟨_,(Zlz hl).2 ⟨p,q,x,y,ht,k,hk,by omega,rfl⟩,h2⟩
theorem Zlv(A:List Ap):Zr A=0\/Zr A=1\/Zr A=2:=by
 unfold Zr;split
 ·exact .inr (.inr rfl)
 ·split
  ·exact .inr (.inl rfl)
  ·exact .inl rfl
def InM(L:List Sf)(R:Nat->Nat->Int):Prop:=∀(i:Nat)(x:Sf),L[i]? =some x->∀k:Nat,k<3->(spA x k).1<=R i k/\R i k<=(spA x k).2
structure StockOk(a b c m:Int)(L:List Sf):Prop where
 r:∀k,0<=alw a b c k/\alw a b c k<=9999
 m:2<=m/\m<=4
 len:L.length<=9
 ok:∀x∈L,∀k,0<=(spA x k).1/\(spA x k).1<=(spA x k).2/\(spA x k).2<=9999
theorem ZlF{a b c m:Int}{L:List Sf}(h:Zp a b c m L=0):StockOk a b c m L:=by
 have h1:Z2J a b c m=0/\Zj L=0:=by
  rw[Zp] at h;simp only[firstV] at h;split at h
  ·rename_i h0;split at h
   ·rename_i h1;exact⟨h0,h1⟩
   ·exact absurd h (by assumption)
  ·exact absurd h (by assumption)
 obtain⟨h1,h2⟩:=h1;unfold Z2J at h1;split at h1
 ·rename_i hr;simp only[okA,Bool.and_eq_true,decide_eq_true_eq] at hr;unfold Zj at h2;split at h2
  ·cases h2
  ·rename_i hl;refine⟨fun k=> ?_,by omega,by omega,fun x hx k=> ?_⟩
   ·match k with
    |0=>exact hr.1.1.1
    |1=>exact hr.1.1.2
    |k+2=>exact hr.1.2
   ·have:=shA_ok h2 x hx;simp only[Z8b,ZF,Bool.and_eq_true,decide_eq_true_eq] at this
    match k with
    |0=>exact this.1.1
    |1=>exact this.1.2
    |k+2=>exact this.2
 ·cases h1
section
variable {a b c m:Int} {L:List Sf} (hs:StockOk a b c m L) {l:List Int} (hl:l.Pairwise (·<·)) (Al:∀i∈l,0<=i/\i<L.length) {R:Nat->Nat->Int} (hR:InM L R)
include hs hl Al hR
end
set_option linter.all false
def lessL:List Int->List Int->Bool
 |[],[]=>false
 |[],_::_=>true
 |_::_,[]=>false
 |x::l,y::k=>if x=y then lessL l k else decide (x<y)
theorem ZgP(x:Int)(l k:List Int):lessL (x::l) (x::k)=lessL l k:=by rw[lessL,if_pos rfl]
theorem chooseR_iff:∀(s l:List Int),l∈chooseR s↔l.Sublist s
 |[],l=>by simp[chooseR]
 |x::t,l=>by
  have h:l∈chooseR (x::t)↔(l=[]\/(∃c∈chooseR t,x::c=l)\/l∈(chooseR t).tail):=by
   show l∈[]::((chooseR t).map (x::·)++(chooseR t).tail)↔_;rw[List.mem_cons,List.mem_append,List.mem_map]
  rw[h];constructor
  ·rintro(rfl|⟨c,hc,rfl⟩|h)
   ·exact List.nil_sublist _
   ·exact((chooseR_iff t c).1 hc).cons_cons x
   ·exact((chooseR_iff t l).1 (by rw[chooseR_head];exact List.mem_cons_of_mem _ h)).cons x
  ·intro h;cases h with
   |cons _ h=>
    have h2:=(chooseR_iff t l).2 h;rw[chooseR_head] at h2;rcases List.mem_cons.1 h2 with h2|h2
    ·exact .inl h2
    ·exact .inr (.inr h2)
   |cons_cons _ h=>exact .inr (.inl ⟨_,(chooseR_iff t _).2 h,rfl⟩)
theorem chooseR_less:∀(s:List Int),s.Pairwise (·<·)->(chooseR s).Pairwise fun l k=>lessL l k=true
 |[],_=>by simp[chooseR]
 |x::t,h=>by
  have ih:=chooseR_less t (List.Pairwise.of_cons h);have iht:(chooseR t).tail.Pairwise fun l k=>lessL l k=true:=ih.sublist (List.tail_sublist _)
  show([]::((chooseR t).map (x::·)++(chooseR t).tail)).Pairwise _;rw[List.pairwise_cons,List.pairwise_append,List.pairwise_map];refine⟨fun k hk=> ?_,ih.imp fun h=>by rw[ZgP];exact h,iht,fun l hl k hk=> ?_⟩
  ·cases k with
   |nil=>
    rcases List.mem_append.1 hk with h|h
    ·obtain⟨c,_,hc⟩:=List.mem_map.1 h;cases hc
    ·exact absurd rfl (chooseR_ne t _ h)
   |cons y k=>rfl
  ·obtain⟨c,_,rfl⟩:=List.mem_map.1 hl;have A8:=chooseR_ne t k hk;have hs:=(chooseR_iff t k).1 (by rw[chooseR_head];exact List.mem_cons_of_mem _ hk);cases k with
   |nil=>exact absurd rfl A8
   |cons y k=>
    have C1:x<y:=List.rel_of_pairwise_cons h (hs.subset List.mem_cons_self);show lessL (x::c) (y::k)=true;rw[lessL,if_neg (by omega)];exact decide_eq_true C1
theorem ZgS(a b c:Int)(L:List Sf)(m:Nat)(s:List Int)(h:s.Pairwise (·<·)):(ZgO a b c L m s).Pairwise fun l k=>lessL l k=true:=(chooseR_less s h).sublist (List.filter_sublist)
theorem ZgT{a b c:Int}{L:List Sf}{m:Nat}{s l:List Int}:l∈ZgO a b c L m s↔l.Sublist s/\l.length=m/\Zr (apA a b c L l)=1:=by
 rw[ZgO,List.mem_filter,chooseR_iff];simp
theorem ZgK(n:Nat):((List.range n).map fun(i:Nat)=>(i:Int)).Pairwise (·<·):=by
 rw[List.pairwise_map];exact(List.pairwise_lt_range (n:=n)).imp fun h=>by omega
set_option linter.all false
def fitA(r0 r1 r2 r3:Int)(S:List Rs):Bool:=Z20 r0 r1 r2 r3 S (upL S.length)
section
variable {r0 r1 r2 r3:Int} {S:List Rs} (hc:ZC r0 r1 r2 r3 S=0)
include hc
omit hc
theorem Zj9(n:Nat):(upL n).Pairwise (·<·):=ZgK n
theorem less_self:∀(l:List Int),lessL l l=false
 |[]=>rfl
 |x::l=>by rw[ZgP];exact less_self l
theorem Zjd{α:Type}[DecidableEq α]:∀{P Q:List α},P.Nodup->(∀x∈P,x∈Q)->P.length<=Q.length
 |[],_,_,_=>Nat.zero_le _
 |x::P,Q,hd,h=>by
  have hx:=h x (by simp);have Uc:=List.nodup_cons.1 hd;have:=Zjd (Q:=Q.erase x) Uc.2 fun y hy=>(List.mem_erase_of_ne (by rintro rfl;exact Uc.1 hy)).2 (h y (by simp[hy]))
  rw[List.length_erase_of_mem hx] at this;have:=List.length_pos_of_mem hx;simp only[List.length_cons];omega
theorem eq_of_asc:∀{l k:List Int},l.Pairwise (·<·)->k.Pairwise (·<·)->(∀x,x∈l↔x∈k)->l=k
 |[],[],_,_,_=>rfl
 |[],y::k,_,_,h=>by have:=(h y).2 (by simp);simp at this
 |x::l,[],_,_,h=>by have:=(h x).1 (by simp);simp at this
 |x::l,y::k,hl,hk,h=>by
  have h1:=List.pairwise_cons.1 hl;have h2:=List.pairwise_cons.1 hk;have a1:=List.mem_cons.1 ((h x).1 (by simp));have a2:=List.mem_cons.1 ((h y).2 (by simp));obtain rfl:x=y:=by
   rcases a1 with a1|a1
   ·exact a1
   ·rcases a2 with a2|a2
    ·exact a2.symm
    ·have:=h2.1 x a1;have:=h1.1 y a2;omega
  congr 1
  refine eq_of_asc h1.2 h2.2 fun z=> ?_
  have hz:=h z;rw[List.mem_cons,List.mem_cons] at hz;constructor
  ·intro hm;have:=h1.1 z hm;rcases hz.1 (.inr hm) with e|e
   ·omega
   ·exact e
  ·intro hm;have:=h2.1 z hm;rcases hz.2 (.inr hm) with e|e
   ·omega
   ·exact e
end
structure Clsh(r0 r1 r2 r3:Int)(S:List Rs)(C T:List Int):Prop where
 ck:C∈chooseR (upL S.length)
 tk:T∈chooseR (upL S.length)
 fit:Z20 r0 r1 r2 r3 S T=true
 none_:fitA r0 r1 r2 r3 S=true->C=[]
 two:fitA r0 r1 r2 r3 S=false->C.length=2/\Z20 r0 r1 r2 r3 S C=false
 first:∀l,l∈chooseR (upL S.length)->l.length=2->Z20 r0 r1 r2 r3 S l=false->lessL l C=false
 most:∀l,l∈chooseR (upL S.length)->Z20 r0 r1 r2 r3 S l=true->l.length<T.length\/(l.length=T.length/\lessL l T=false)
section
variable {r0 r1 r2 r3:Int} {S:List Rs} {C T:List Int} (hc:ZC r0 r1 r2 r3 S=0) (h:Clsh r0 r1 r2 r3 S C T)
include h
include hc
end
set_option linter.all false
def Disj(l k:List Int):Prop:=∀x∈l,x∉k
theorem Disj.symm{l k:List Int}(h:Disj l k):Disj k l:=fun x hx hl=>h x hl hx
theorem ZlW{l k:List Int}:ZQ l k=false↔Disj l k:=by
 unfold ZQ Disj;rw[List.any_eq_false];simp
structure Pack(T:List (List Int))(taken:List Int)(P:List (List Int)):Prop where
 sub:P.Sublist T
 dis:P.Pairwise Disj
 free:∀l∈P,Disj l taken
theorem Zli{s:List Int}{t:List (List Int)}{taken:List Int}(h:ZQ s taken=false):shareL [] (s::t) taken=Z0q (s::shareL [] t (taken++s)) (shareL [] t taken):=by
 rw[shareL,if_neg (by rw[h];decide),if_pos (by simp),shareL_best]
theorem shareL_pack:∀(T:List (List Int))(taken:List Int),Pack T taken (shareL [] T taken)
 |[],taken=>⟨List.Sublist.refl _,List.Pairwise.nil,fun l hl=>by cases hl⟩
 |s::t,taken=>by
  have h1:=shareL_pack t taken;cases h:ZQ s taken with
  |true=>
   rw[shareL,if_pos h];exact⟨h1.sub.cons s,h1.dis,h1.free⟩
  |false=>
   have h2:=shareL_pack t (taken++s);rw[Zli h,Z0q];split
   ·exact⟨h1.sub.cons s,h1.dis,h1.free⟩
   ·refine⟨h2.sub.cons_cons s,List.pairwise_cons.2 ⟨fun l hl x hx hxl=>h2.free l hl x hxl (List.mem_append_right _ hx),h2.dis⟩,fun l hl=> ?_⟩;rcases List.mem_cons.1 hl with rfl|hl
    ·exact ZlW.1 h
    ·exact fun x hx ht=>h2.free l hl x hx (List.mem_append_left _ ht)
theorem Pack.tail{s:List Int}{t P:List (List Int)}{taken:List Int}(h:Pack (s::t) taken (s::P)):ZQ s taken=false/\Pack t (taken++s) P:=by
 have h1:=List.pairwise_cons.1 h.dis;refine⟨ZlW.2 (h.free s (by simp)),⟨?_,h1.2,fun l hl x hx hm=> ?_⟩⟩
 ·have:=h.sub;cases this with
  |cons _ h=>exact(List.sublist_cons_self s P).trans h
  |cons_cons _ h=>exact h
 ·rcases List.mem_append.1 hm with hm|hm
  ·exact h.free l (by simp[hl]) x hx hm
  ·exact h1.1 l hl x hm hx
theorem shareL_most:∀(T:List (List Int))(taken:List Int)(P:List (List Int)),Pack T taken P->P.length<=(shareL [] T taken).length
 |[],taken,P,h=>by
  have:=h.sub;rw[List.sublist_nil.1 this];simp
 |s::t,taken,P,h=>by
  have key:(shareL [] t taken).length<=(shareL [] (s::t) taken).length:=by
   cases hc:ZQ s taken with
   |true=>rw[shareL,if_pos hc];exact Nat.le_refl _
   |false=>rw[Zli hc,Z0q];split<;>omega
  have E4:=h.sub;cases E4 with
  |cons _ hs=>exact Nat.le_trans (shareL_most t taken P ⟨hs,h.dis,h.free⟩) key
  |cons_cons _ hs=>
   rename_i P';obtain⟨hc,h2⟩:=h.tail;have:=shareL_most t _ _ h2;rw[Zli hc,Z0q];split
   ·rename_i A3;simp only[List.length_cons] at A3⊢;omega
   ·simp only[List.length_cons];omega
theorem ZlU{T P:List (List Int)}{taken:List Int}(hn:T.Nodup)(hT:∀l∈T,l≠[])(hm:∀l∈P,l∈T)(hd:P.Pairwise Disj)(hf:∀l∈P,Disj l taken):P.length<=(shareL [] T taken).length:=by
 have T4:P.Nodup:=by
  refine hd.imp_of_mem fun{a b} ha hb h e=> ?_
  subst e;obtain⟨x,hx⟩:=List.exists_mem_of_ne_nil _ (hT _ (hm _ ha));exact h x hx hx
 have hQ:Pack T taken (T.filter fun l=>decide (l∈P)):=by
  refine⟨List.filter_sublist,?_,fun l hl=>hf l (by simpa using(List.mem_filter.1 hl).2)⟩;have h1:(T.filter fun l=>decide (l∈P)).Pairwise (·≠·):=List.Pairwise.sublist List.filter_sublist hn;refine h1.imp_of_mem fun{a b} ha hb A8=> ?_
  have Om:a∈P:=by simpa using(List.mem_filter.1 ha).2
  have Ah:b∈P:=by simpa using(List.mem_filter.1 hb).2
  obtain⟨i,hi⟩:=List.mem_iff_getElem?.1 Om;obtain⟨j,hj⟩:=List.mem_iff_getElem?.1 Ah;obtain⟨Fy,E3⟩:=List.getElem?_eq_some_iff.1 hi;obtain⟨Wy,G1⟩:=List.getElem?_eq_some_iff.1 hj;rcases Nat.lt_trichotomy i j with h|h|h
  ·have:=List.pairwise_iff_getElem.1 hd i j Fy Wy h
   rwa [E3,G1] at this
  ·subst h;rw[E3] at G1;exact absurd G1 A8
  ·have:=List.pairwise_iff_getElem.1 hd j i Wy Fy h;rw[E3,G1] at this;exact this.symm
 exact Nat.le_trans (Zjd T4 fun l hl=>List.mem_filter.2 ⟨hm l hl,decide_eq_true hl⟩) (shareL_most T taken _ hQ)
theorem Zlq{T:List (List Int)}(h:T.Pairwise fun l k=>lessL l k=true):T.Nodup:=by
 refine h.imp fun{a b} C9 e=> ?_
 subst e;rw[less_self] at C9;cases C9
set_option linter.all false
theorem Zhx{w:World}{bl:Option Addr}{S:List Int}(h:RawI w bl S)(h0:S≠[]):∃b o,bl=some ⟨b,o,none⟩/\b<w.heap.size/\∀j u,(S.map (Value.int .i64))[j]? =some u->w.cell? ((⟨b,o,none⟩:Addr).add j)=some u:=by
 obtain⟨x,hx⟩:∃x,S[0]? =some x:=by
  cases S with
  |nil=>exact absurd rfl h0
  |cons x t=>exact⟨x,rfl⟩
 obtain⟨b,o,rfl,hb,_⟩:=h 0 x hx;refine⟨b,o,rfl,hb,fun j u hj=> ?_⟩;rw[List.getElem?_map] at hj;obtain⟨y,hy,rfl⟩:=Option.map_eq_some_iff.1 hj;obtain⟨b',o',e,_,hc⟩:=h j y hy;obtain⟨rfl,rfl⟩:b=b'/\o=o':=by simpa using e
 have e2:(⟨b,o,none⟩:Addr).add j=⟨b,o+j,none⟩:=by unfold Addr.add;split<;>simp_all
 rw[e2];exact hc
theorem Zhm{o:Oper}{a:Act}{w:World}{K:Act->World->Prop}{Q:Exit->Act->World->Prop}(s x:Operand)(ho:o.op= .call {callee:= .builtin .append,args:= #[s,x],argTypes:= #[27,27]})
 (base:Nat)(v:Value)(T:List Int)(hs:a.eval s=v)(Ae:OwnI base w v T)(bl:Option Addr)(c:Nat)(S:List Int)(hx:a.eval x= .slice bl S.length c)(Cg:bl=none->c=0)(hS:RawI w bl S)
 (hb:T.length+S.length<=1000000)(A4:base<=w.heap.size)(h:∀v' w',OwnI base w' v' (T++S)->w.grownBy w' v.ownBlock->K (a.put o.dst v') w'):o.wp prog a w K Q:=by
 cases bl with
 |none=>
  have H9:S=[]:=by
   cases S with
   |nil=>rfl
   |cons x t=>
    obtain⟨b,o,e,_⟩:=hS 0 x rfl;cases e
  subst H9;obtain rfl:=Cg rfl;have Ad:=run_append_owned_none (P:=prog) (w:=w) base 27 o.type 3 Tryz.t3 1 u27 i3 v T.length (T.map (Value.int .i64)) Ae;have hx:a.eval x= .slice none 0 0:=hx;unfold Oper.wp;simp[execOp,ho,resolve,invoke,builtin,hs,hx,Ad,Result.andThen];exact h v w (by rw[List.append_nil];exact Ae) ⟨rfl,rfl,rfl,Nat.le_refl _,fun b hb _=>rfl⟩
 |some ad=>
  have hn:∀j u,(S.map (Value.int .i64))[j]? =some u->w.cell? (ad.add j)=some u:=by
   by_cases h0:S=[]
   ·subst h0;intro j u hj;simp at hj
   ·obtain⟨b,o,e,_,hc⟩:=Zhx hS h0;cases e;exact hc
  refine wp_append_own w s x 27 ho base 3 Tryz.t3 (.int .i64 0) 1 8 u27 i3 t3z t3s t3b rfl (by omega) v T.length (T.map (Value.int .i64)) hs Ae ad S.length c (S.map (Value.int .i64)) hx (by simp) hn (by intro u hu;obtain⟨x,_,rfl⟩:=List.mem_map.1 hu;rfl) (by simp only[maxLen];omega) (by omega) A4 ?_;intro v' w' h1 h2 _;refine h v' w' ?_ h2;show w'.ownsRow base 3 1 v' (T++S).length ((T++S).map (Value.int .i64));rw[List.map_append,List.length_append];exact h1
set_option linter.all false
theorem Zhj(bl:Option Addr)(k cl:Nat)(l:List Int)(x:Int)(w:World)(hk:l.length=k)(hb:k<=1000000)(hl:RawI w bl l):
 Calls prog 39 #[.slice bl k cl,.int .i64 x] w fun e w'=>e= .returned (.bool (decide (x∈l)))/\Ext w w':=by
 have H:Hid (decide (x∈l)=decide (x∈l.drop 0)):=rfl;replace hk:Hid (l.length=k):=hk;have Ev:Hid (RawI w bl l):=hl;clear hl;go_enter func39,ntmps39;go_wp2;go_loopw [5] (fun v wr=>∃i:Nat,i<=k/\v= .int .i64 i/\Ext w wr/\Hid (decide (x∈l)=decide (x∈l.drop i))) (fun v _=>k - (intOf v).toNat)
 case atStart=>exact⟨0,Nat.zero_le _,rfl,Ext.rfl' w,H⟩
 case round=>
  clear H;obtain⟨i,hi,rfl,hE,HP⟩:=hrel;by_cases Tn:i=k
  ·have HR:Hid (decide (x∈l)=false):=by show _=_;rw[HP.out,Tn,<-hk.out,List.drop_length];simp
   subst Tn;clear HP;go_wp2;go_ret;exact⟨ZP HR.out.symm,hE⟩
  ·have A3:i<k:=by omega
   have D8:(i:Int)<(k:Int):=by omega
   obtain⟨y,hy⟩:∃y,l[i]? =some y:=⟨_,List.getElem?_eq_getElem (by have:=hk.out;omega)⟩;obtain⟨b,o,rfl,B1,hc⟩:=(Ev.out.ext hE) i y hy;by_cases C1:y=x
   ·have HR:Hid (decide (x∈l)=true):=decide_eq_true (C1▸List.mem_of_getElem? hy);subst C1;clear Ev hy HP;go_wp2;go_ret;exact⟨ZP HR.out.symm,hE⟩
   ·have HN:Hid (decide (x∈l)=decide (x∈l.drop (i+1))):=by
     show _=_;rw[HP.out,Z0b hy,Bool.eq_iff_iff];simp[Ne.symm C1]
    clear hy HP;go_wp2;exact⟨⟨i+1,by omega,by push_cast;rfl,hE,HN⟩,by simp[intOf];omega⟩
set_option linter.all false
set_option linter.all false
set_option linter.all false
set_option linter.all false
set_option linter.all false
theorem Zhq(a b c m:Int)(L:List Sf):Zo a b c m L []=Zp a b c m L:=by
 rw[Zo,firstV];split
 ·rename_i h;rw[h];rfl
 ·rfl
set_option linter.all false
structure SetOk(a b c:Int)(m:Nat)(L:List Sf)(out:Int->Prop)(l:List Int):Prop where
 asc:l.Pairwise (·<·)
 mem:∀i∈l,0<=i/\i<L.length/\¬out i
 len:l.length=m
 yes:Zr (apA a b c L l)=1
def Can(a b c:Int)(m:Nat)(L:List Sf)(out:Int->Prop)(q:Nat):Prop:=∃P:List (List Int),P.length=q/\(∀l∈P,SetOk a b c m L out l)/\P.Pairwise Disj
theorem ZlV{l s:List Int}(hl:l.Pairwise (·<·))(hs:s.Pairwise (·<·))(h:∀i∈l,i∈s):l.Sublist s:=by
 have e:l=s.filter fun x=>decide (x∈l):=eq_of_asc hl (hs.sublist List.filter_sublist) fun x=>by
  rw[List.mem_filter,decide_eq_true_eq];exact⟨fun hx=>⟨h x hx,hx⟩,fun hx=>hx.2⟩
 rw[e];exact List.filter_sublist
section
variable {a b c:Int} {m:Nat} {L:List Sf} {out:Int->Prop}
theorem Zlr{s:List Int}(hs:s.Pairwise (·<·))(hm:∀i,i∈s↔0<=i/\i<L.length/\¬out i){l:List Int}:l∈ZgO a b c L m s↔SetOk a b c m L out l:=by
 rw[ZgT];constructor
 ·rintro⟨h1,h2,h3⟩;exact⟨hs.sublist h1,fun i hi=>(hm i).1 (h1.subset hi),h2,h3⟩
 ·rintro⟨h1,h2,h3,h4⟩;exact⟨ZlV h1 hs fun i hi=>(hm i).2 (h2 i hi),h3,h4⟩
theorem ZlG{s:List Int}(hs:s.Pairwise (·<·))(hm:∀i,i∈s↔0<=i/\i<L.length/\¬out i)(h0:0<m):
 Can a b c m L out (shareL [] (ZgO a b c L m s) []).length/\∀q,Can a b c m L out q->q<=(shareL [] (ZgO a b c L m s) []).length:=by
 have hp:=shareL_pack (ZgO a b c L m s) [];refine⟨⟨_,rfl,fun l hl=>(Zlr hs hm).1 (hp.sub.subset hl),hp.dis⟩,?_⟩;rintro q ⟨P,rfl,hP,hd⟩;refine ZlU (Zlq (ZgS a b c L m s hs)) (fun l hl e=> ?_) (fun l hl=>(Zlr hs hm).2 (hP l hl)) hd fun l _ x _ hx=>by cases hx
 have:=((Zlr hs hm).1 hl).len;rw[e] at this;simp at this;omega
theorem near_one{x y:Sf}{k:Nat}:Z1m a b c x y k=1↔(spA x k).2 - (spA y k).1<=alw a b c k/\(spA y k).2 - (spA x k).1<=alw a b c k:=by
 unfold Z1m Z2Q;split
 ·rename_i h;exact⟨fun _=>h,fun _=>rfl⟩
 ·rename_i h;constructor
  ·intro e;split at e<;>cases e
  ·exact fun e=>absurd e h
theorem ZlH{x y:Sf}{k:Nat}(h:Z1m a b c x y k=1):Z1m a b c y x k=1:=near_one.2 (near_one.1 h).symm
def ZlT(n:Nat)(f:Int->Int)(l:List Int):List Int:=(upL n).filter fun j=>l.any fun i=>f i==j
theorem ZlO{n:Nat}{f:Int->Int}{l:List Int}{j:Int}:j∈ZlT n f l↔(0<=j/\j<n)/\∃i∈l,f i=j:=by
 rw[ZlT,List.mem_filter,Zjk,List.any_eq_true];simp
theorem Zls(n:Nat)(f:Int->Int)(l:List Int):(ZlT n f l).Pairwise (·<·):=(Zj9 n).sublist List.filter_sublist
theorem ZlI{l:List Int}(h:l.Pairwise (·<·)):l.Nodup:=h.imp fun{a b} C9 e=>by omega
variable {a' b' c':Int} {L':List Sf} {out':Int->Prop}
structure Into(a b c:Int)(L:List Sf)(out:Int->Prop)(a' b' c':Int)(L':List Sf)(out':Int->Prop)(f:Int->Int):Prop where
 mem:∀i:Int,0<=i->i<L'.length->¬out' i->0<=f i/\f i<L.length/\¬out (f i)
 inj:∀i j:Int,0<=i->i<L'.length->0<=j->j<L'.length->¬out' i->¬out' j->f i=f j->i=j
 yes:∀(i j:Int)(x y x' y':Sf),0<=i->0<=j->¬out' i->¬out' j->L'[i.toNat]? =some x'->L'[j.toNat]? =some y'->L[(f i).toNat]? =some x->L[(f j).toNat]? =some y->∀k:Nat,k<3->Z1m a' b' c' x' y' k=1->Z1m a b c x y k=1
theorem Into.img{f:Int->Int}(h:Into a b c L out a' b' c' L' out' f){l:List Int}(hl:l.Pairwise (·<·))(Al:∀i∈l,0<=i/\i<L'.length/\¬out' i):(ZlT L.length f l).length=l.length/\(∀j∈ZlT L.length f l,0<=j/\j<L.length/\¬out j)/\(Zr (apA a' b' c' L' l)=1->Zr (apA a b c L (ZlT L.length f l))=1):=by
 have B4:∀j,j∈ZlT L.length f l↔j∈l.map f:=by
  intro j;rw[ZlO,List.mem_map];constructor
  ·rintro⟨_,h⟩;exact h
  ·rintro⟨i,hi,rfl⟩;have:=Al i hi;have:=h.mem i this.1 this.2.1 this.2.2;exact⟨⟨this.1,this.2.1⟩,i,hi,rfl⟩
 refine⟨?_,fun j hj=> ?_,fun hy=> ?_⟩
 ·have n1:=ZlI (Zls L.length f l);have n2:(l.map f).Nodup:=by
   show(l.map f).Pairwise (·≠·);rw[List.pairwise_map];refine hl.imp_of_mem fun{x y} hx hy C1 e=> ?_
   have h1:=Al x hx;have h2:=Al y hy;have:=h.inj x y h1.1 h1.2.1 h2.1 h2.2.1 h1.2.2 h2.2.2 e;omega
  have l1:=Zjd n1 fun x hx=>(B4 x).1 hx
  have l2:=Zjd n2 fun x hx=>(B4 x).2 hx
  rw[List.length_map] at l1 l2;omega
 ·obtain⟨i,hi,rfl⟩:=List.mem_map.1 ((B4 j).1 hj);have:=Al i hi;exact h.mem i this.1 this.2.1 this.2.2
 ·rw[Zlp hl] at hy;refine(Zlp (Zls _ _ _)).2 fun p q x y ⟨hp,hq,Lj,hx,J6⟩ k hk=> ?_
  obtain⟨i,hi,rfl⟩:=List.mem_map.1 ((B4 p).1 hp);obtain⟨j,hj,rfl⟩:=List.mem_map.1 ((B4 q).1 hq);have h1:=Al i hi;have h2:=Al j hj;obtain⟨x',hx'⟩:∃x,L'[i.toNat]? =some x:=⟨_,List.getElem?_eq_getElem (by omega)⟩;obtain⟨y',hy'⟩:∃y,L'[j.toNat]? =some y:=⟨_,List.getElem?_eq_getElem (by omega)⟩;rcases Int.lt_trichotomy i j with E2|E2|E2
  ·exact h.yes i j x y x' y' h1.1 h2.1 h1.2.2 h2.2.2 hx' hy' hx J6 k hk (hy i j x' y' ⟨hi,hj,E2,hx',hy'⟩ k hk)
  ·subst E2;omega
  ·exact ZlH (h.yes j i y x y' x' h2.1 h1.1 h2.2.2 h1.2.2 hy' hx' J6 hx k hk (hy j i y' x' ⟨hj,hi,E2,hy',hx'⟩ k hk))
theorem Into.can{f:Int->Int}(h:Into a b c L out a' b' c' L' out' f){q:Nat}(hq:Can a' b' c' m L' out' q):Can a b c m L out q:=by
 obtain⟨P,rfl,hP,hd⟩:=hq;refine⟨P.map (ZlT L.length f),List.length_map ..,?_,?_⟩
 ·intro l hl;obtain⟨l',hl',rfl⟩:=List.mem_map.1 hl;have hs:=hP l' hl';obtain⟨h1,h2,h3⟩:=h.img hs.asc hs.mem;exact⟨Zls _ _ _,h2,h1.trans hs.len,h3 hs.yes⟩
 ·rw[List.pairwise_map];refine hd.imp_of_mem fun{l k} hl hk Fa x hx Bu=> ?_
  obtain⟨_,i,hi,rfl⟩:=ZlO.1 hx;obtain⟨_,j,hj,e⟩:=ZlO.1 Bu;have h1:=(hP l hl).mem i hi;have h2:=(hP k hk).mem j hj;have:=h.inj j i h2.1 h2.2.1 h1.1 h1.2.1 h2.2.2 h1.2.2 e;subst this;exact Fa _ hi hj
end
theorem ZlJ{n:Nat}{out:Nat->Bool}{p:Int}:p∈ZeS n out 0↔0<=p/\p<n/\out p.toNat=false:=by
 constructor
 ·intro h;have:=Zh5 h;exact⟨this.1,this.2.1,this.2.2.1⟩
 ·rintro⟨h0,h1,h2⟩;refine List.mem_map.2 ⟨p.toNat,List.mem_filter.2 ⟨?_,by simp[h2]⟩,by omega⟩;rw[List.mem_range'_1];omega
theorem ZlA{a b c m:Int}{L:List Sf}(h:Zp a b c m L=0):Can a b c m.toNat L (fun _=>False) (Z66 a b c m L).length/\∀q,Can a b c m.toNat L (fun _=>False) q->q<=(Z66 a b c m L).length:=by
 have hm:=(ZlF h).m;rw[Z66,if_pos (by rw[Zhq];exact h),ZhE _ _ _ _ _ _ (by omega)];refine ZlG (Zhp _ _ _) (fun i=> ?_) (by omega);rw[ZlJ];simp
theorem shA_iff:∀{L:List Sf}{seen:List (List UInt8)},shA seen L=0↔(∀x∈L,Z2d x.nm=true/\Z8b x=true/\nmL x∉seen)/\(L.map nmL).Nodup
 |[],seen=>by simp[shA]
 |x::t,seen=>by
  rw[shA];cases hn:Z2d x.nm with
  |false=>simp[hn]
  |true=>
   rw[if_neg (by simp)];by_cases hs:nmL x∈seen
   ·rw[if_pos hs];constructor
    ·intro h;cases h
    ·rintro⟨h,_⟩;exact absurd hs (h x List.mem_cons_self).2.2
   ·rw[if_neg hs];cases ho:Z8b x with
    |false=>simp[ho]
    |true=>
     rw[if_neg (by simp),shA_iff,List.map_cons,List.nodup_cons];constructor
     ·rintro⟨h1,h2⟩;refine⟨fun y hy=> ?_,fun hx=> ?_,h2⟩
      ·rcases List.mem_cons.1 hy with rfl|hy
       ·exact⟨hn,ho,hs⟩
       ·have:=h1 y hy;exact⟨this.1,this.2.1,fun h=>this.2.2 (List.mem_append_left _ h)⟩
      ·obtain⟨y,hy,e⟩:=List.mem_map.1 hx;exact(h1 y hy).2.2 (List.mem_append_right _ (by rw[e];exact List.mem_singleton_self _))
     ·rintro⟨h1,h2,h3⟩;refine⟨fun y hy=> ?_,h3⟩;have:=h1 y (List.mem_cons_of_mem _ hy);refine⟨this.1,this.2.1,fun h=> ?_⟩;rcases List.mem_append.1 h with h|h
      ·exact this.2.2 h
      ·exact h2 (List.mem_map.2 ⟨y,hy,List.mem_singleton.1 h⟩)
theorem ZlE{a b c m:Int}{L:List Sf}:Zp a b c m L=0↔Z2J a b c m=0/\L.length<=9/\(∀x∈L,Z2d x.nm=true/\Z8b x=true)/\(L.map nmL).Nodup:=by
 have h1:Zp a b c m L=0↔Z2J a b c m=0/\Zj L=0:=by
  rw[Zp];simp only[firstV];constructor
  ·intro h;split at h
   ·rename_i h0;split at h
    ·rename_i h1;exact⟨h0,h1⟩
    ·exact absurd h (by assumption)
   ·exact absurd h (by assumption)
  ·rintro⟨h0,h1⟩;rw[if_pos h0,if_pos h1]
 rw[h1,Zj];split
 ·rename_i h9;constructor
  ·rintro⟨_,h⟩;cases h
  ·rintro⟨_,h,_⟩;omega
 ·rename_i h9;rw[shA_iff];constructor
  ·rintro⟨h0,h1,h2⟩;exact⟨h0,by omega,fun x hx=>⟨(h1 x hx).1,(h1 x hx).2.1⟩,h2⟩
  ·rintro⟨h0,_,h1,h2⟩;exact⟨h0,fun x hx=>⟨(h1 x hx).1,(h1 x hx).2,List.not_mem_nil⟩,h2⟩
set_option linter.all false
theorem Zlj{a b c:Int}{x y:Sf}{k:Nat}:Z1m a b c x y k=Z1m a b c y x k:=by
 have h1:∀p q r s:Int,max p q - min r s=max q p - min s r:=fun p q r s=>by omega
 unfold Z1m Z2Q;by_cases h:(spA x k).2 - (spA y k).1<=alw a b c k/\(spA y k).2 - (spA x k).1<=alw a b c k
 ·rw[if_pos h,if_pos (And.intro h.2 h.1)]
 ·rw[if_neg h,if_neg (fun g=>h (And.intro g.2 g.1):¬((spA y k).2 - (spA x k).1<=alw a b c k/\(spA x k).2 - (spA y k).1<=alw a b c k)),h1]
theorem ZlK{a b c a' b' c' m:Int}{L L':List Sf}{f:Int->Int}(h:Zp a b c m L=0)(h':Zp a' b' c' m L'=0)(hi:Into a b c L (fun _=>False) a' b' c' L' (fun _=>False) f):(Z66 a' b' c' m L').length<=(Z66 a b c m L).length:=
 (ZlA h).2 _ (hi.can (ZlA h').1)
def ZU(L:List Sf)(v i:Nat):List Sf:=(List.range i).filterMap fun j=>L[(j+v) % L.length]?
theorem Zlw{L:List Sf}{v i:Nat}{x:Sf}(hx:L[(i+v) % L.length]? =some x):ZU L v (i+1)=ZU L v i++[x]:=by
 rw[ZU,List.range_succ,List.filterMap_append];simp[ZU,hx]
theorem Zlk{L:List Sf}(h0:0<L.length)(v:Nat):∀i:Nat,(ZU L v i).length=i/\∀j,j<i->(ZU L v i)[j]? =L[(j+v) % L.length]?
 |0=>⟨rfl,fun j hj=>by omega⟩
 |i+1=>by
  obtain⟨h1,h2⟩:=Zlk h0 v i;obtain⟨x,hx⟩:∃x,L[(i+v) % L.length]? =some x:=⟨_,List.getElem?_eq_getElem (Nat.mod_lt _ h0)⟩;rw[Zlw hx];refine⟨by simp[h1],fun j hj=> ?_⟩;by_cases e:j<i
  ·rw[List.getElem?_append_left (by omega),h2 j e]
  ·obtain rfl:j=i:=by omega
   rw[List.getElem?_append_right (by omega),h1,hx];simp
structure Turn(L L':List Sf)(v:Nat):Prop where
 pos:0<L.length
 len:L'.length=L.length
 get:∀j,j<L.length->L'[j]? =L[(j+v) % L.length]?
theorem ZlP{L:List Sf}(h0:0<L.length)(v:Nat):Turn L (ZU L v L.length) v:=⟨h0,(Zlk h0 v _).1,(Zlk h0 v _).2⟩
theorem Zln{n v i:Nat}(hi:i<n):(i+v) % n=if i+v % n<n then i+v % n else i+v % n - n:=by
 have h1:(i+v) % n=(i+v % n) % n:=(Nat.add_mod_mod i v n).symm;have h2:v % n<n:=Nat.mod_lt _ (by omega);rw[h1];split
 ·exact Nat.mod_eq_of_lt (by assumption)
 ·rw[Nat.mod_eq_sub_mod (by omega),Nat.mod_eq_of_lt (by omega)]
theorem Zlt{n v i j:Nat}(hi:i<n)(hj:j<n)(h:(i+v) % n=(j+v) % n):i=j:=by
 have h2:v % n<n:=Nat.mod_lt _ (by omega);rw[Zln hi,Zln hj] at h;split at h<;>split at h<;>omega
def bkI(n v j:Nat):Nat:=(j+(n - v % n)) % n
theorem Zlx{n v j:Nat}(hj:j<n):bkI n v j<n:=Nat.mod_lt _ (by omega)
theorem Zll{n v j:Nat}(hj:j<n):(bkI n v j+v) % n=j:=by
 have h2:v % n<n:=Nat.mod_lt _ (by omega);rw[Zln (Zlx hj),bkI,Zln hj];by_cases h0:v % n=0
 ·rw[h0,Nat.sub_zero,Nat.mod_self]
  (repeat' split)<;>omega
 ·rw[Nat.mod_eq_of_lt (show n - v % n<n by omega)]
  (repeat' split)<;>omega
section
variable {a b c:Int} {L L':List Sf} {v:Nat} (h:Turn L L' v)
include h
theorem Turn.into:Into a b c L (fun _=>False) a b c L' (fun _=>False) (fun i=>(((i.toNat+v) % L.length:Nat):Int)):=by
 have hp:=h.pos;have hl:=h.len;refine⟨fun i h0 h1 _=>⟨by(try dsimp only);omega,by have:=Nat.mod_lt (i.toNat+v) hp;(try dsimp only);omega,id⟩,fun i j h0 h1 h2 h3 _ _ e=> ?_,?_⟩
 ·have:=Zlt (n:=L.length) (v:=v) (i:=i.toNat) (j:=j.toNat) (by omega) (by omega) (by(try dsimp only at e);omega);omega
 ·intro i j x y x' y' h0 h1 _ _ hx' hy' hx hy k hk e;have g1:=(List.getElem?_eq_some_iff.1 hx').1;have g2:=(List.getElem?_eq_some_iff.1 hy').1;rw[h.get _ (by omega)] at hx' hy';simp only[Int.toNat_natCast] at hx hy;rw[hx'] at hx;rw[hy'] at hy;cases hx;cases hy;exact e
theorem Turn.back:Into a b c L' (fun _=>False) a b c L (fun _=>False) (fun i=>((bkI L.length v i.toNat:Nat):Int)):=by
 have hp:=h.pos;have hl:=h.len;refine⟨fun i h0 h1 _=>⟨by(try dsimp only);omega,by have:=Zlx (n:=L.length) (v:=v) (j:=i.toNat) (by omega);(try dsimp only);omega,id⟩,fun i j h0 h1 h2 h3 _ _ e=> ?_,?_⟩
 ·have:=Zlt (n:=L.length) (i:=i.toNat) (j:=j.toNat) (by omega) (by omega) (show(i.toNat+(L.length - v % L.length)) % L.length=(j.toNat+(L.length - v % L.length)) % L.length from by simp only[bkI] at e;omega);omega
 ·intro i j x y x' y' h0 h1 _ _ hx' hy' hx hy k hk e;have g1:=(List.getElem?_eq_some_iff.1 hx').1;have g2:=(List.getElem?_eq_some_iff.1 hy').1;simp only[Int.toNat_natCast] at hx hy;rw[h.get _ (Zlx g1),Zll g1,hx'] at hx;rw[h.get _ (Zlx g2),Zll g2,hy'] at hy;cases hx;cases hy;exact e
theorem Turn.stock{m:Int}(hs:Zp a b c m L=0):Zp a b c m L'=0:=by
 have hl:=h.len;rw[ZlE] at hs⊢;obtain⟨h1,h2,h3,h4⟩:=hs
 have hg:∀(j:Nat)(x:Sf),L'[j]? =some x->j<L.length/\L[(j+v) % L.length]? =some x:=fun j x hx=>by
  have hj:=(List.getElem?_eq_some_iff.1 hx).1;rw[h.get j (by omega)] at hx;exact⟨by omega,hx⟩
 refine⟨h1,by omega,fun x hx=> ?_,?_⟩
 ·obtain⟨j,hj⟩:=List.mem_iff_getElem?.1 hx;exact h3 x (List.mem_of_getElem? (hg j x hj).2)
 ·refine List.pairwise_iff_getElem.2 fun i j hi hj E2 e=> ?_
  rw[List.getElem_map,List.getElem_map] at e;rw[List.length_map] at hi hj;obtain⟨i1,i2⟩:=hg i _ (List.getElem?_eq_getElem hi);obtain⟨j1,j2⟩:=hg j _ (List.getElem?_eq_getElem hj);obtain⟨p1,p2⟩:=List.getElem?_eq_some_iff.1 i2;obtain⟨q1,q2⟩:=List.getElem?_eq_some_iff.1 j2;have A8:(i+v) % L.length≠(j+v) % L.length:=fun e=>by have:=Zlt i1 j1 e;omega
  have key:∀p q (hp:p<L.length)(hq:q<L.length),p<q->nmL L[p]≠nmL L[q]:=fun p q hp hq Lj e=>by
   have:=List.pairwise_iff_getElem.1 h4 p q (by rw[List.length_map];exact hp) (by rw[List.length_map];exact hq) Lj;rw[List.getElem_map,List.getElem_map] at this;exact this e
  rcases Nat.lt_or_gt_of_ne A8 with A3|A3
  ·exact key _ _ p1 q1 A3 (by rw[p2,q2];exact e)
  ·exact key _ _ q1 p1 A3 (by rw[p2,q2];exact e.symm)
theorem Turn.many{m:Int}(hs:Zp a b c m L=0):(Z66 a b c m L').length=(Z66 a b c m L).length:=
 Nat.le_antisymm (ZlK hs (h.stock hs) h.into) (ZlK (h.stock hs) hs h.back)
end
def Zlo(n v:Nat)(l:List Int)(i:Nat):List Int:=((List.range i).filter fun j=>l.contains (((j+v) % n:Nat):Int)).map fun(j:Nat)=>(j:Int)
theorem ZlL(n v:Nat)(l:List Int)(i:Nat):Zlo n v l (i+1)=if l.contains (((i+v) % n:Nat):Int)=true then Zlo n v l i++[(i:Int)] else Zlo n v l i:=by
 unfold Zlo;rw[List.range_succ,List.filter_append,List.map_append];by_cases h:l.contains (((i+v) % n:Nat):Int)=true
 ·rw[if_pos h,List.filter_cons_of_pos (p:=fun(j:Nat)=>l.contains (((j+v) % n:Nat):Int)) h];rfl
 ·rw[if_neg h,List.filter_cons_of_neg (p:=fun(j:Nat)=>l.contains (((j+v) % n:Nat):Int)) h];simp
theorem ZlB(n v:Nat)(l:List Int)(i:Nat):(Zlo n v l i).length<=i:=by
 have:=List.length_filter_le (fun j=>l.contains (((j+v) % n:Nat):Int)) (List.range i);simpa[Zlo] using this
theorem Zlu(n v:Nat)(l:List Int)(i:Nat):(Zlo n v l i).Pairwise (·<·):=(ZgK i).sublist (List.filter_sublist.map _)
theorem ZlQ{n v:Nat}{l:List Int}{i:Nat}{p:Int}:p∈Zlo n v l i↔0<=p/\p<i/\(((p.toNat+v) % n:Nat):Int)∈l:=by
 constructor
 ·intro h;obtain⟨j,hj,rfl⟩:=List.mem_map.1 h;obtain⟨h1,h2⟩:=List.mem_filter.1 hj;rw[List.mem_range] at h1;rw[List.contains_iff_mem] at h2;exact⟨by omega,by omega,h2⟩
 ·rintro⟨h0,h1,h2⟩;exact List.mem_map.2 ⟨p.toNat,List.mem_filter.2 ⟨List.mem_range.2 (by omega),List.contains_iff_mem.2 h2⟩,by omega⟩
theorem Turn.match{a b c:Int}{L L':List Sf}{v:Nat}(h:Turn L L' v){l:List Int}(hl:l.Pairwise (·<·))(Al:∀i∈l,0<=i/\i<L.length):Zr (apA a b c L' (Zlo L.length v l L.length))=Zr (apA a b c L l):=by
 have hk:=Zlu L.length v l L.length;have hm:=fun p=>ZlQ (n:=L.length) (v:=v) (l:=l) (i:=L.length) (p:=p)
 generalize Zlo L.length v l L.length=k at hk hm⊢;have hA:∀p q x y,Two L' k p q x y->Two L l ((p.toNat+v) % L.length:Nat) ((q.toNat+v) % L.length:Nat) x y\/Two L l ((q.toNat+v) % L.length:Nat) ((p.toNat+v) % L.length:Nat) y x:=by
  rintro p q x y ⟨hp,hq,Lj,hx,hy⟩;obtain⟨p0,p1,p2⟩:=(hm p).1 hp;obtain⟨q0,q1,q2⟩:=(hm q).1 hq;rw[h.get _ (by omega)] at hx hy;have A8:(p.toNat+v) % L.length≠(q.toNat+v) % L.length:=fun e=>by have:=Zlt (by omega) (by omega) e;omega
  rcases Nat.lt_or_gt_of_ne A8 with A3|A3
  ·exact .inl ⟨p2,q2,by omega,by rw[Int.toNat_natCast];exact hx,by rw[Int.toNat_natCast];exact hy⟩
  ·exact .inr ⟨q2,p2,by omega,by rw[Int.toNat_natCast];exact hy,by rw[Int.toNat_natCast];exact hx⟩
 have hB:∀p q x y,Two L l p q x y->Two L' k (bkI L.length v p.toNat:Nat) (bkI L.length v q.toNat:Nat) x y\/Two L' k (bkI L.length v q.toNat:Nat) (bkI L.length v p.toNat:Nat) y x:=by
  rintro p q x y ⟨hp,hq,Lj,hx,hy⟩;have p0:=Al p hp;have q0:=Al q hq;have key:∀p∈l,∀x,L[p.toNat]? =some x->((bkI L.length v p.toNat:Nat):Int)∈k/\L'[((bkI L.length v p.toNat:Nat):Int).toNat]? =some x:=by
   intro p hp x hx;have p0:=Al p hp;have p1:=Zlx (n:=L.length) (v:=v) (j:=p.toNat) (by omega);have p2:=Zll (n:=L.length) (v:=v) (j:=p.toNat) (by omega);rw[hm,Int.toNat_natCast,p2,h.get _ p1,p2];exact⟨⟨by omega,by omega,by rw[Int.toNat_of_nonneg p0.1];exact hp⟩,hx⟩
  obtain⟨k1,k2⟩:=key p hp x hx;obtain⟨k3,k4⟩:=key q hq y hy
  have A8:bkI L.length v p.toNat≠bkI L.length v q.toNat:=fun e=>by
   have e1:=Zll (n:=L.length) (v:=v) (j:=p.toNat) (by omega);have e2:=Zll (n:=L.length) (v:=v) (j:=q.toNat) (by omega);rw[e,e2] at e1;omega
  rcases Nat.lt_or_gt_of_ne A8 with A3|A3
  ·exact .inl ⟨k1,k3,by omega,k2,k4⟩
  ·exact .inr ⟨k3,k1,by omega,k4,k2⟩
 have h1:Zr (apA a b c L' k)=1↔Zr (apA a b c L l)=1:=by
  rw[Zlp hk,Zlp hl];constructor
  ·intro hy p q x y ht j hj;rcases hB p q x y ht with h|h
   ·exact hy _ _ _ _ h j hj
   ·rw[Zlj];exact hy _ _ _ _ h j hj
  ·intro hy p q x y ht j hj;rcases hA p q x y ht with h|h
   ·exact hy _ _ _ _ h j hj
   ·rw[Zlj];exact hy _ _ _ _ h j hj
 have h2:Zr (apA a b c L' k)=2↔Zr (apA a b c L l)=2:=by
  rw[ZlS hk,ZlS hl];constructor
  ·rintro⟨p,q,x,y,ht,j,hj,hn⟩;rcases hA p q x y ht with h|h
   ·exact⟨_,_,_,_,h,j,hj,hn⟩
   ·exact⟨_,_,_,_,h,j,hj,by rw[Zlj];exact hn⟩
  ·rintro⟨p,q,x,y,ht,j,hj,hn⟩;rcases hB p q x y ht with h|h
   ·exact⟨_,_,_,_,h,j,hj,hn⟩
   ·exact⟨_,_,_,_,h,j,hj,by rw[Zlj];exact hn⟩
 have h3:=Zlv (apA a b c L' k);have h4:=Zlv (apA a b c L l);omega
set_option linter.all false
def sfV(x:Sf):List Value:=[.string x.nm,.int .i64 x.a0,.int .i64 x.a1,.int .i64 x.b0,.int .i64 x.b1,.int .i64 x.c0,.int .i64 x.c1]
def ZkU(L:List Sf):List Value:=L.flatMap sfV
theorem sfsV_len:∀S:List Sf,(ZkU S).length=S.length*7
 |[]=>rfl
 |s::S=>by
  have:=sfsV_len S;simp only[ZkU,List.flatMap_cons,List.length_append,List.length_cons] at*;rw[this];simp[sfV];omega
theorem sfsV_at:∀(S:List Sf)(i:Nat)(s:Sf),S[i]? =some s->∀c,c<7->(ZkU S)[i*7+c]? =(sfV s)[c]?
 |[],i,s,h,c,hc=>by simp at h
 |x::S,0,s,h,c,hc=>by
  obtain rfl:x=s:=by simpa using h
  simp only[ZkU,List.flatMap_cons];rw[List.getElem?_append_left (by simp[sfV];omega)];simp
 |x::S,i+1,s,h,c,hc=>by
  have ih:=sfsV_at S i s (by simpa using h) c hc;simp only[ZkU,List.flatMap_cons] at*;rw[List.getElem?_append_right (by simp[sfV];omega),<-ih];congr 1;simp[sfV];omega
theorem Zly(S T:List Sf):ZkU (S++T)=ZkU S++ZkU T:=by simp[ZkU]
theorem Zl3(S:List Sf):∀u∈ZkU S,u.oneCell'=true:=by
 intro u hu;obtain⟨s,_,hs⟩:=List.mem_flatMap.1 hu;simp only[sfV,List.mem_cons,List.not_mem_nil,or_false] at hs;rcases hs with rfl|rfl|rfl|rfl|rfl|rfl|rfl<;>rfl
theorem ZkS{w:World}{B O:Nat}{S:List Sf}(hB:B<w.heap.size)(hn:∀x∈S,x.nm.size<=maxLen)(h:∀j u,(ZkU S)[j]? =some u->w.cell? ⟨B,O+j,none⟩=some u):RawA w (some ⟨B,O,none⟩) S:=by
 intro i s hs;have k:=fun c (hc:c<7) u (hu:(sfV s)[c]? =some u)=>h (i*7+c) u ((sfsV_at S i s hs c hc).trans hu)
 refine⟨B,O,rfl,hB,?_,hn s (List.mem_of_getElem? hs)⟩;have k0:=k 0 (by omega) _ rfl;have k1:=k 1 (by omega) _ rfl;have k2:=k 2 (by omega) _ rfl;have k3:=k 3 (by omega) _ rfl;have k4:=k 4 (by omega) _ rfl;have k5:=k 5 (by omega) _ rfl;have k6:=k 6 (by omega) _ rfl;exact⟨k0,k1,k2,k3,k4,k5,k6⟩
theorem RawA.size{w:World}{base:Option Addr}{L:List Sf}(h:RawA w base L):∀x∈L,x.nm.size<=maxLen:=by
 intro x hx;obtain⟨i,hi⟩:=List.mem_iff_getElem?.1 hx;obtain⟨_,_,_,_,_,h4⟩:=h i x hi;exact h4
theorem u24:prog.underlying 24=some (.slice 51):=(underlying_eq 24).trans Tryz.underlying24
theorem i51:prog.info? 51=some Tryz.t51:=by kernel_rfl
theorem t51z:Tryz.t51.zero=some (.agg #[.string .empty,.int .i64 0,.int .i64 0,.int .i64 0,.int .i64 0,.int .i64 0,.int .i64 0]):=by kernel_rfl
theorem t51s:Tryz.t51.size=7:=by kernel_rfl
theorem t51b:Tryz.t51.bytes=64:=by kernel_rfl
def OwnA(base:Nat)(w:World)(v:Value)(S:List Sf):Prop:=w.ownsRow base 51 7 v S.length (ZkU S)
theorem OwnA.ext{w w':World}{b:Nat}{v:Value}{S:List Sf}(h:OwnA b w v S)(hE:Ext w w'):OwnA b w' v S:=Z00 h hE
theorem OwnA.lt{w:World}{b:Nat}{v:Value}{S:List Sf}(h:OwnA b w v S)(k:Nat)(hk:v.ownBlock=some k):b<=k/\k<w.heap.size:=World.ownsRow.lt h k hk
theorem OwnA.form{w:World}{b:Nat}{v:Value}{S:List Sf}(h:OwnA b w v S)(h0:0<S.length)(hn:∀x∈S,x.nm.size<=maxLen):∃g cap,v= .slice (some ⟨g,0,none⟩) S.length cap/\b<=g/\g<w.heap.size/\RawA w (some ⟨g,0,none⟩) S/\S.length<=cap/\cap<=maxLen:=by
 have hc:=fun g hg=>World.ownsRow.cells (g:=g) h hg
 rcases h.2 with⟨_,h1⟩|⟨g,cap,cur,rfl,hb,hg,h1,h2,_,_⟩
 ·omega
 ·refine⟨g,cap,rfl,hb,Z5 hg,ZkS (Z5 hg) hn fun j u hj=> ?_,h1,h2⟩;have:=hc g rfl j u hj;rw[Zh7] at this;exact this
theorem ZlM{o:Oper}{a:Act}{w:World}{K:Act->World->Prop}{Q:Exit->Act->World->Prop}(s x:Operand)(ho:o.op= .call {callee:= .builtin .append,args:= #[s,x],argTypes:= #[24,24]})
 (base:Nat)(v:Value)(T:List Sf)(hs:a.eval s=v)(Ae:OwnA base w v T)(ad:Addr)(c:Nat)(S:List Sf)(hx:a.eval x= .slice (some ad) S.length c)(Dt:∀j u,(ZkU S)[j]? =some u->w.cell? (ad.add j)=some u)
 (hb:T.length+S.length<=1000)(A4:base<=w.heap.size)(h:∀v' w',OwnA base w' v' (T++S)->w.grownBy w' v.ownBlock->K (a.put o.dst v') w'):o.wp prog a w K Q:=by
 refine wp_append_own w s x 24 ho base 51 Tryz.t51 _ 7 64 u24 i51 t51z t51s t51b rfl (by omega) v T.length (ZkU T) hs Ae ad S.length c (ZkU S) hx (sfsV_len S) Dt (Zl3 S) (by simp only[maxLen];omega) (by omega) A4 ?_;intro v' w' h1 h2 _;refine h v' w' ?_ h2;show w'.ownsRow base 51 7 v' (T++S).length (ZkU (T++S));rw[Zly,List.length_append];exact h1
set_option linter.all false
set_option linter.all false
end Go.Proofs.Tryq
namespace Go.Nk
open Go Go.Region Go.Proofs.Tryq
section
variable {P:Program} {ops:Array Oper} {R:Exit->Act->World->Prop} {E:World->World->Prop} {t:Nat} {l:List Nat}
def Zjz(P:Program)(ops:Array Oper)(R:Exit->Act->World->Prop)(E:World->World->Prop)(t:Nat):Nat->Array Bool->Act->World->Prop
 |0,listed,a,w=>Region.ready .any ops listed=[]/\R .normal a w
 |n+1,listed,a,w=>(Region.ready .any ops listed=[]->R .normal a w)/\∀i∈Region.ready .any ops listed,
   wpOp P ops FQ i (fun a' W'=>(i<t->E w W')/\Zjz P ops R E t n (listed.setIfInBounds i true) a' W') a w
theorem wpAny_of_Z:∀(n:Nat)(l:Array Bool)(a:Act)(w:World),Zjz P ops R E t n l a w->wpAny P .any ops R n l a w
 |0,_,_,w,h=>h
 |n+1,_,_,w,h=>⟨h.1,fun i hi=>Zf8 noFQ (fun a' w' h'=>wpAny_of_Z n _ a' w' h'.2) (h.2 i hi)⟩
theorem Zji(hE:Pre E){i:Nat}{oi:Oper}{v:Value}(hi:ops[i]? =some oi)(C8:∀(j:Nat)(o:Oper) cs b,ops[j]? =some o->o.op≠.select cs b)(Ab:Zf9 ops t i=true):
 ∀(n:Nat)(listed:Array Bool)(a:Act)(w:World),Closed ops listed->
  (∀j oj,ops[j]? =some oj->j≠i->listed.getD j true=false->(∀e∈oj.after,Region.binds .any e=true->e.on≠i)->oi.apart ops oj=true)->
  i∈Region.ready .any ops listed->YX P ops E w oi v a->Zjz P ops R E t n (listed.setIfInBounds i true) (a.put oi.dst v) w->Zjz P ops R E t (n+1) listed a w:=by
 intro n
 induction n with
 |zero=>
  intro listed a w _ _ hr hy H;refine⟨fun h=>(by rw[h] at hr;cases hr),fun j hj=> ?_⟩;by_cases Aq:j=i
  ·subst Aq;exact hy.wpOp hE hi ⟨fun _=>hE.rfl' w,H⟩
  ·have:=Go.ready_mono hj Aq;rw[H.1] at this;cases this
 |succ n ih=>
  intro listed a w hc C4 hr hy H;refine⟨fun h=>(by rw[h] at hr;cases hr),fun j hj=> ?_⟩;by_cases Aq:j=i
  ·subst Aq;exact hy.wpOp hE hi ⟨fun _=>hE.rfl' w,H⟩
  ·obtain⟨Cx,oj,Bn,Ag⟩:=Go.mem_ready.1 hj;have Cb:=C4 j oj Bn Aq Cx (ZeW (j:=j) (Go.mem_ready.1 hr).1 Ag)
   have Cy:∀k ok,ops[k]? =some ok->k≠i->(listed.setIfInBounds j true).getD k true=false->
    (∀e∈ok.after,Region.binds .any e=true->e.on≠i)->oi.apart ops ok=true:=fun k ok hk Fd H1 E5=>by
    refine C4 k ok hk Fd ?_ E5;by_cases Gl:j=k
    ·subst Gl;exact Cx
    ·rw[getD_set_ne true Gl] at H1;exact H1
   have h1:=H.2 j (Go.ready_mono hj Aq);refine wpOp_mono (fun a' w' h3=> ?_) (ZeV Bn Cb (fun cs b=>C8 j oj cs b Bn) h1);obtain⟨⟨u,d,rfl⟩,h4,h5⟩:=h3;refine⟨h4,ih (listed.setIfInBounds j true) _ w' (hc.set hj) Cy (Go.ready_mono hr (Ne.symm Aq)) (YX.kept Cb (fun cs b=>C8 i oi cs b hi) (hy.ext hE (h4 (ZeJ hc Ab hr hj)))) ?_⟩;rw[Array.setIfInBounds_comm _ _ Aq];exact h5
def LZE(P:Program)(ops:Array Oper)(R:Exit->Act->World->Prop)(E:World->World->Prop)(t:Nat)(l:List Nat)(a:Act)(w:World):Prop:=Zjz P ops R E t (ops.size - l.length) (mark ops.size l) a w
def Zju(ops:Array Oper)(t:Nat)(l:List Nat)(k:Nat):Bool:=decide (l.length<ops.size)&&(Region.ready .any ops (mark ops.size l)).contains k&&Region.free .any ops (mark ops.size l) k&&Zf9 ops t k&&Zik ops l
theorem Zjv(hE:Pre E){k:Nat}{o:Oper}{v:Value}{a:Act}{w:World}(hs:Region.noSelect ops=true)(hi:ops[k]? =some o)(hf:Zju ops t l k=true)(hy:YX P ops E w o v a)(h:LZE P ops R E t (k::l) (a.put o.dst v) w):LZE P ops R E t l a w:=by
 unfold Zju at hf;simp only[Bool.and_eq_true,decide_eq_true_eq] at hf;obtain⟨⟨⟨⟨h2,h3⟩,h4⟩,h5⟩,h6⟩:=hf;unfold LZE at*;rw[show ops.size - l.length=(ops.size - (k::l).length)+1 by simp only[List.length_cons];omega];exact Zji hE hi (Region.noSelect_spec hs) h5 _ _ a w (Zid h6) (Region.free_spec hi h4) (by simpa using h3) hy h
theorem Zj7(k:Nat){o:Oper}{a:Act}{w:World}(hi:ops[k]? =some o)(hb:(decide (l.length<ops.size)&&Region.ready .any ops (mark ops.size l)==[k])=true)(hw:Region.wanted o (yielded ops a.tmps)=true)
 (h:o.wp P a w (fun a' W'=>(k<t->E w W')/\LZE P ops R E t (k::l) a' W') FQ):LZE P ops R E t l a w:=by
 simp only[Bool.and_eq_true,decide_eq_true_eq,beq_iff_eq] at hb;unfold LZE at*;rw[show ops.size - l.length=(ops.size - (k::l).length)+1 by simp only[List.length_cons];omega];refine⟨fun h0=>(by rw[h0] at hb;cases hb.2),fun i hi'=> ?_⟩;rw[hb.2] at hi';obtain rfl:i=k:=by simpa using hi'
 unfold wpOp;simp only[hi,hw,if_true];exact .inl h
theorem Zjw{a:Act}{w:World}(hk:(ops.size==l.length&&(Region.ready .any ops (mark ops.size l)).isEmpty)=true)(h:R .normal a w):LZE P ops R E t l a w:=by
 rw[Bool.and_eq_true,beq_iff_eq,List.isEmpty_iff] at hk;unfold LZE;rw[show ops.size - l.length=0 by omega];exact⟨hk.2,h⟩
def Zjh(ops:Array Oper)(t:Nat):List Nat->List Nat->Bool
 |[],_=>true
 |k::ks,l=>Zju ops t l k&&(match ops[k]? with|some o=>ZeC o|none=>false)&&Zjh ops t ks (k::l)
theorem Zjp(hE:Pre E){w:World}(hs:Region.noSelect ops=true):∀(ks l:List Nat)(a:Act),Zjh ops t ks l=true->wpQuiet P ops (fun w'=>∃p:GrE E w,w'=p.W) (fun a'=>LZE P ops R E t (doneL ks l) a' w) (ZeD ops.toList ks) a->LZE P ops R E t l a w:=by
 intro ks
 induction ks with
 |nil=>intro l a _ h;exact h
 |cons k ks ih=>
  intro l a hp h;simp only[Zjh,Bool.and_eq_true] at hp;obtain⟨⟨hf,ho⟩,hp⟩:=hp;cases hi:ops[k]? with
  |none=>rw[hi] at ho;cases ho
  |some o=>
   rw[hi] at ho;rw[ZeD,show ops.toList[k]? =some o by rw[Array.getElem?_toList];exact hi] at h;have hq:qOp P ops (fun w'=>∃p:GrE E w,w'=p.W) k (wpQuiet P ops (fun w'=>∃p:GrE E w,w'=p.W) (fun a'=>LZE P ops R E t (doneL (k::ks) l) a' w) (ZeD ops.toList ks)) a:=by
    unfold qOp;simp only[hi];exact h
   obtain⟨v,hy,hK⟩:=yieldsIn_of_qOp hi hq;exact Zjv hE hs hi hf (hy.imp (fun h=>⟨h.1,fun W hW=>ZhU ho (h.2 W ⟨⟨W,hW⟩,rfl⟩)⟩) id) (ih _ _ hp hK)
theorem Zjb(hE:Pre E){o:List Oper}(ks:List Nat){a:Act}{w:World}(hs:Region.noSelect o.toArray=true)(hp:Zjh o.toArray t ks l=true)(h:wpQuiet P o.toArray (fun w'=>∃p:GrE E w,w'=p.W) (fun a'=>LZE P o.toArray R E t (doneL ks l) a' w) (ZeD o ks) a):LZE P o.toArray R E t l a w:=
 Zjp hE hs ks l a hp h
theorem Zjj(E:World->World->Prop)(t:Nat){id:Nat}{a:Act}{w:World}(hm:P.follows .mixedOrders=true)(h:LZE P ops R E t [] a w.drew):(Code.region id ops true).wp P R a w:=by
 unfold LZE at h;exact wp_region_any hm (wpAny_of_Z _ _ _ _ h)
end
end Go.Nk
