import Derived.Test.YtedkbdkbbnemlaaGreatDoorNkA
import Derived.Test.YtedkbdkbbnemlaaGreatDoorNk28
import Derived.Deep.AppendLies
set_option linter.all false
namespace Go.Proofs.Tryq
set_option maxRecDepth 100000
set_option maxHeartbeats 2000000
open Go Go.Nk Go.RowKit
def Z1B(L:List Sf):Bool:=decide (20<L.length)||L.any fun x=>decide (100<x.nm.size)
theorem ZaR(a b c m:Int)(base:Option Addr)(n cap:Nat)(L:List Sf)(w:World)(A3:L.length=n)(hS:RawA w base L):
 Calls prog 21 #[.agg #[.int .i64 a,.int .i64 b,.int .i64 c,.int .i64 m,.slice base n cap]] w fun e w'=>e= .returned (.bool (Z1B L))/\Ext w w':=by
 by_cases Dw:20<L.length
 ·have hz:Z1B L=true:=by rw[Z1B,decide_eq_true Dw,Bool.true_or]
  have hn:(20:Int)<(n:Int):=by omega
  rw[hz];clear Dw hz;go_enter func21,ntmps21;go_wp2;go_ret;exact⟨rfl,(Ext.rfl' w).alloc _⟩
 ·have hn:(n:Int)<=20:=by omega
  have H:Hid (Z1B L=(L.drop 0).any fun x=>decide (100<x.nm.size)):=by show _=_;rw[Z1B,decide_eq_false Dw,Bool.false_or];rfl
  clear Dw;go_enter func21,ntmps21;go_wp2;go_loopw [3] (fun v wr=>∃i:Nat,i<=n/\v= .int .i64 i/\wr.heap[w.heap.size]? =some (.cells #[.int .i64 a,.int .i64 b,.int .i64 c,.int .i64 m,.slice base n cap] 26)/\Ext w wr/\Hid (Z1B L=(L.drop i).any fun x=>decide (100<x.nm.size))) (fun v _=>n - (intOf v).toNat)
  case atStart=>exact⟨0,Nat.zero_le _,rfl,by rw[Z3,if_pos rfl],(Ext.rfl' w).alloc _,H⟩
  case round=>
   obtain⟨i,hi,rfl,hr,hE,hH⟩:=hrel;clear H;have q4:=Z0 hr 4;simp only[YC,YA,YB] at q4;by_cases Aw:i=n
   ·subst Aw;have hz:Z1B L=false:=(by rw[hH.out,<-A3,List.drop_length];rfl);go_wp2;go_ret;exact⟨ZP (a:=false) hz.symm,hE⟩
   ·have A4:i<n:=(by omega);obtain⟨x,hx⟩:∃x,L[i]? =some x:=⟨_,YH (by omega)⟩;obtain⟨b',off,rfl,hb,hs,M0⟩:=(hS.ext hE) i x hx;have k0:=hs.1;have Ac:Hid (Z1B L=(decide (100<x.nm.size)||(L.drop (i+1)).any fun x=>decide (100<x.nm.size))):=(by show _=_;rw[hH.out,Z0b hx,List.any_cons]);clear hH hx;unfold maxLen at M0;have F1:¬n<=i:=(by omega);by_cases h1:100<x.nm.size
    ·have hz:Z1B L=true:=(by rw[Ac.out,decide_eq_true h1,Bool.true_or]);have h1':(100:Int)<(x.nm.size:Int):=(by omega);clear Ac h1;go_wp2;go_ret;exact⟨ZP (a:=true) hz.symm,hE⟩
    ·have El:Hid (Z1B L=(L.drop (i+1)).any fun x=>decide (100<x.nm.size)):=(by show _=_;rw[Ac.out,decide_eq_false h1,Bool.false_or]);have h1':(x.nm.size:Int)<=100:=(by omega);clear Ac h1;go_wp2;exact⟨⟨i+1,by omega,by push_cast;rfl,hr,hE,El⟩,by simp[intOf];omega⟩
def Zfc(a b c m:Int)(L:List Sf):Bool:= !Z1B L&&(Zp a b c m L==0)
theorem Zfd(a b c m:Int)(base:Option Addr)(n cap:Nat)(L:List Sf)(w:World)(A3:L.length=n)(hS:RawA w base L):
 Calls prog 30 #[.agg #[.int .i64 a,.int .i64 b,.int .i64 c,.int .i64 m,.slice base n cap]] w fun e w'=>e= .returned (.bool (Zfc a b c m L))/\Ext w w':=by
 have M7:=fun W hW=>ZaR a b c m base n cap L W A3 (hS.ext hW)
 cases hg:Z1B L with
 |true=>
  have hf:Zfc a b c m L=false:=by simp[Zfc,hg]
  simp only[hg] at M7;rw[hf];go_enter func30,ntmps30
  go_wp2_with (first
   |(go_at_call 21;refine(M7 _ ((Ext.rfl' w).alloc _)).mono ?_;rintro e w2 ⟨rfl,A8⟩
     have Av:=((Ext.rfl' w).alloc _).trans A8))
  go_ret;exact⟨rfl,Av⟩
 |false=>
  have hn:n<=20:=by
   rw[<-A3];simp only[Z1B,Bool.or_eq_false_iff,decide_eq_false_iff_not] at hg;omega
  have hf:Zfc a b c m L=(Zp a b c m L==0):=by simp[Zfc,hg]
  simp only[hg] at M7;have hc:=fun W hW=>Z1P a b c m base n cap L W A3 (by omega) (hS.ext hW)
  rw[hf];clear hg hf;go_enter func30,ntmps30
  go_wp2_with (first
   |(go_at_call 21;refine(M7 _ ((Ext.rfl' w).alloc _)).mono ?_;rintro e w2 ⟨rfl,A8⟩
     have Av:=((Ext.rfl' w).alloc _).trans A8;have hb:=A8.get (b:=w.heap.size) (o:= .cells #[.int .i64 a,.int .i64 b,.int .i64 c,.int .i64 m,.slice base n cap] 26) ((Z3 _ _ _).trans (if_pos rfl));have q0:=Z0 hb 0;have q1:=Z0 hb 1;have q2:=Z0 hb 2;have q3:=Z0 hb 3;have q4:=Z0 hb 4;simp only[YC,YA,YB] at q0 q1 q2 q3 q4)
   |(go_at_call 26;refine(hc _ Av).mono ?_;rintro e w3 ⟨rfl,Ar⟩))
  go_ret;exact⟨rfl,Av.trans Ar⟩
end Go.Proofs.Tryq
namespace Go.Proofs.Tryq
open Go Go.Nk Go.RowKit
set_option linter.all false
theorem Zfe{a b c:Int}{L:List Sf}{u:Ap}:∀{l:List Int},u∈apA a b c L l↔∃(i j:Nat)(x y:Int),i<j/\l[i]? =some x/\l[j]? =some y/\u∈apP a b c L x y
 |[]=>⟨fun h=>(by cases h),fun⟨i,j,x,y,_,hx,_⟩=>by simp at hx⟩
 |p::t=>by
  rw[show apA a b c L (p::t)=apR a b c L p t++apA a b c L t from rfl,List.mem_append,Zfe (l:=t)];constructor
  ·rintro(h|⟨i,j,x,y,Ec,hx,hy,hu⟩)
   ·obtain⟨y,hy,hu⟩:=List.mem_flatMap.1 h;obtain⟨j,hj⟩:=List.mem_iff_getElem?.1 hy;exact⟨0,j+1,p,y,by omega,rfl,by simpa using hj,hu⟩
   ·exact⟨i+1,j+1,x,y,by omega,by simpa using hx,by simpa using hy,hu⟩
  ·rintro⟨i,j,x,y,Ec,hx,hy,hu⟩;obtain⟨j,rfl⟩:∃j',j=j'+1:=⟨j - 1,by omega⟩;rw[YB] at hy;cases i with
   |zero=>
    rw[YA] at hx;injection hx with e;subst e;exact .inl (List.mem_flatMap.2 ⟨y,YQ hy,hu⟩)
   |succ i=>
    rw[YB] at hx;exact .inr ⟨i,j,x,y,by omega,hx,hy,hu⟩
set_option linter.all false
theorem mem_apP{a b c:Int}{L:List Sf}{u:Ap}{p q:Int}:u∈apP a b c L p q↔∃x y,L[p.toNat]? =some x/\L[q.toNat]? =some y/\∃k:Nat,k<3/\Z1m a b c x y k≠1/\u=⟨p,q,k,Z1m a b c x y k⟩:=by
 have key:∀k:Nat,u∈apE a b c L p q k↔∃x y,L[p.toNat]? =some x/\L[q.toNat]? =some y/\Z1m a b c x y k≠1/\u=⟨p,q,k,Z1m a b c x y k⟩:=by
  intro k;unfold apE;cases h1:L[p.toNat]? with
  |none=>simp
  |some x=>
   cases h2:L[q.toNat]? with
   |none=>simp
   |some y=>
    simp only[Option.some.injEq];split
    ·rename_i h;simp[h]
    ·rename_i h;simp[h]
 simp only[apP,List.mem_append,key];constructor
 ·rintro(⟨x,y,h1,h2,h3,h4⟩|⟨x,y,h1,h2,h3,h4⟩|⟨x,y,h1,h2,h3,h4⟩)
  ·exact⟨x,y,h1,h2,0,by omega,h3,h4⟩
  ·exact⟨x,y,h1,h2,1,by omega,h3,h4⟩
  ·exact⟨x,y,h1,h2,2,by omega,h3,h4⟩
 ·rintro⟨x,y,h1,h2,k,hk,h3,h4⟩;obtain rfl|rfl|rfl:k=0\/k=1\/k=2:=by omega
  ·exact .inl ⟨x,y,h1,h2,h3,h4⟩
  ·exact .inr (.inl ⟨x,y,h1,h2,h3,h4⟩)
  ·exact .inr (.inr ⟨x,y,h1,h2,h3,h4⟩)
def Two(L:List Sf)(l:List Int)(p q:Int)(x y:Sf):Prop:=p∈l/\q∈l/\p<q/\L[p.toNat]? =some x/\L[q.toNat]? =some y
theorem Zlz{a b c:Int}{L:List Sf}{l:List Int}(hl:l.Pairwise (·<·)){u:Ap}:u∈apA a b c L l↔∃p q x y,Two L l p q x y/\∃k:Nat,k<3/\Z1m a b c x y k≠1/\u=⟨p,q,k,Z1m a b c x y k⟩:=by
 rw[Zfe];constructor
 ·rintro⟨i,j,p,q,Ec,hp,hq,hu⟩;obtain⟨x,y,hx,hy,hk⟩:=mem_apP.1 hu;refine⟨p,q,x,y,⟨YQ hp,YQ hq,?_,hx,hy⟩,hk⟩;obtain⟨h1,e1⟩:=YI.1 hp;obtain⟨h2,e2⟩:=YI.1 hq;have:=List.pairwise_iff_getElem.1 hl i j h1 h2 Ec;rw[e1,e2] at this;exact this
 ·rintro⟨p,q,x,y,⟨hp,hq,Ft,hx,hy⟩,hk⟩;obtain⟨i,hi⟩:=List.mem_iff_getElem?.1 hp;obtain⟨j,hj⟩:=List.mem_iff_getElem?.1 hq;refine⟨i,j,p,q,?_,hi,hj,mem_apP.2 ⟨x,y,hx,hy,hk⟩⟩;obtain⟨h1,e1⟩:=YI.1 hi;obtain⟨h2,e2⟩:=YI.1 hj;rcases Nat.lt_trichotomy i j with h|h|h
  ·exact h
  ·subst h;rw[e1] at e2;omega
  ·have:=List.pairwise_iff_getElem.1 hl j i h2 h1 h;rw[e1,e2] at this;omega
theorem Zlp{a b c:Int}{L:List Sf}{l:List Int}(hl:l.Pairwise (·<·)):Zr (apA a b c L l)=1↔∀p q x y,Two L l p q x y->∀k:Nat,k<3->Z1m a b c x y k=1:=by
 rw[Zey];constructor
 ·intro h p q x y ht k hk;refine Classical.byContradiction fun hn=> ?_
  have:=(Zlz (a:=a) (b:=b) (c:=c) hl).2 ⟨p,q,x,y,ht,k,hk,hn,rfl⟩;rw[h] at this;cases this
 ·intro h;refine List.eq_nil_iff_forall_not_mem.2 fun u hu=> ?_
  obtain⟨p,q,x,y,ht,k,hk,hn,_⟩:=(Zlz hl).1 hu;exact hn (h p q x y ht k hk)
def InM(L:List Sf)(R:Nat->Nat->Int):Prop:=∀(i:Nat)(x:Sf),L[i]? =some x->∀k:Nat,k<3->(spA x k).1<=R i k/\R i k<=(spA x k).2
structure StockOk(a b c m:Int)(L:List Sf):Prop where
 r:∀k,0<=alw a b c k/\alw a b c k<=9999
 m:2<=m/\m<=4
 len:L.length<=9
 ok:∀x∈L,∀k,0<=(spA x k).1/\(spA x k).1<=(spA x k).2/\(spA x k).2<=9999
theorem ZlF{a b c m:Int}{L:List Sf}(h:Zp a b c m L=0):StockOk a b c m L:=by
 have h1:Z2J a b c m=0/\Zj L=0:=by
  rw[Zp] at h;simp only[firstV] at h;split at h
  ·rename_i h0;split at h
   ·rename_i h1;exact⟨h0,h1⟩
   ·exact absurd h (by assumption)
  ·exact absurd h (by assumption)
 obtain⟨h1,h2⟩:=h1;unfold Z2J at h1;split at h1
 ·rename_i hr;simp only[okA,YG,decide_eq_true_eq] at hr;unfold Zj at h2;split at h2
  ·cases h2
  ·rename_i hl;refine⟨fun k=> ?_,by omega,by omega,fun x hx k=> ?_⟩
   ·match k with
    |0=>exact hr.1.1.1
    |1=>exact hr.1.1.2
    |k+2=>exact hr.1.2
   ·have:=shA_ok h2 x hx;simp only[Z8b,ZF,YG,decide_eq_true_eq] at this
    match k with
    |0=>exact this.1.1
    |1=>exact this.1.2
    |k+2=>exact this.2
 ·cases h1
section
variable {a b c m:Int} {L:List Sf} (hs:StockOk a b c m L) {l:List Int} (hl:l.Pairwise (·<·)) (Aw:∀i∈l,0<=i/\i<L.length) {R:Nat->Nat->Int} (hR:InM L R)
include hs hl Aw hR
end
theorem shA_same:∀{L L':List Sf}{seen:List (List UInt8)},L'.length=L.length->(∀(i:Nat)(x x':Sf),L[i]? =some x->L'[i]? =some x'->x'.nm=x.nm/\Z8b x'=true)->shA seen L=0->shA seen L'=0
 |[],[],_,_,_,h=>h
 |[],y::t,_,hl,_,_=>by simp at hl
 |x::t,[],_,hl,_,_=>by simp at hl
 |x::t,y::u,seen,hl,hx,h=>by
  obtain⟨h1,h2⟩:=hx 0 x y rfl rfl;rw[shA] at h;rw[shA,h1,h2];split at h
  ·omega
  ·rename_i e1;rw[if_neg e1];have e0:nmL y=nmL x:=by unfold nmL;rw[h1]
   rw[e0];split at h
   ·omega
   ·rename_i e2;rw[if_neg e2,if_neg (by simp)];split at h
    ·omega
    ·exact shA_same (by simpa using hl) (fun i x x' h1 h2=>hx (i+1) x x' h1 h2) h
theorem Zm2{a b c m:Int}{L L':List Sf}(hl:L'.length=L.length)(hx:∀(i:Nat)(x x':Sf),L[i]? =some x->L'[i]? =some x'->x'.nm=x.nm/\∀k,k<3->0<=(spA x' k).1/\(spA x' k).1<=(spA x' k).2/\(spA x' k).2<=9999)(h:Zp a b c m L=0):Zp a b c m L'=0:=by
 have h1:Z2J a b c m=0/\Zj L=0:=by
  rw[Zp] at h;simp only[firstV] at h;split at h
  ·rename_i h0;split at h
   ·rename_i h1;exact⟨h0,h1⟩
   ·exact absurd h (by assumption)
  ·exact absurd h (by assumption)
 rw[Zp];simp only[firstV,h1.1,if_true];rw[if_pos];obtain⟨_,h2⟩:=h1;unfold Zj at h2⊢;rw[hl];split at h2
 ·cases h2
 ·rename_i h9;rw[if_neg h9];refine shA_same hl (fun i x x' h1 h2=>⟨(hx i x x' h1 h2).1,?_⟩) h2;have:=(hx i x x' h1 h2).2;have k0:=this 0 (by omega);have k1:=this 1 (by omega);have k2:=this 2 (by omega);simp only[Z8b,ZF,YG,decide_eq_true_eq];exact⟨⟨k0,k1⟩,k2⟩
def Zl9(x:Sf)(k:Nat)(p:Int×Int):Sf:=match k with
 |0=>{x with a0:=p.1,a1:=p.2}
 |1=>{x with b0:=p.1,b1:=p.2}
 |_=>{x with c0:=p.1,c1:=p.2}
theorem Zle(x:Sf)(k:Nat)(p:Int×Int):(Zl9 x k p).nm=x.nm:=by unfold Zl9;split<;>rfl
theorem Zm3{x:Sf}{k j:Nat}{p:Int×Int}(hk:k<3)(hj:j<3):spA (Zl9 x k p) j=if j=k then p else spA x j:=by
 obtain rfl|rfl|rfl:k=0\/k=1\/k=2:=by omega
 all_goals
  obtain rfl|rfl|rfl:j=0\/j=1\/j=2:=by omega
  all_goals rfl
def Zla(L:List Sf)(i k:Nat)(p:Int×Int):List Sf:=match L[i]? with
 |some x=>L.set i (Zl9 x k p)
 |none=>L
theorem Zlb(L:List Sf)(i k:Nat)(p:Int×Int):(Zla L i k p).length=L.length:=by unfold Zla;split<;>simp
theorem Zlc{L:List Sf}{i k:Nat}{p:Int×Int}{j:Nat}{x':Sf}(h:(Zla L i k p)[j]? =some x'):∃x,L[j]? =some x/\x'=if j=i then Zl9 x k p else x:=by
 unfold Zla at h;split at h
 ·rename_i x hx;by_cases e:j=i
  ·subst e;have A4:=(YI.1 hx).1;rw[List.getElem?_set_self A4] at h;exact⟨x,hx,by rw[if_pos rfl];exact(YT h).symm⟩
  ·rw[List.getElem?_set_ne (Ne.symm e)] at h;exact⟨x',h,by rw[if_neg e]⟩
 ·rename_i hx;refine⟨x',h,?_⟩;rw[if_neg];rintro rfl;rw[hx] at h;cases h
theorem Zml{a b c m:Int}{L:List Sf}{i k:Nat}{p:Int×Int}(hk:k<3)(hp:0<=p.1/\p.1<=p.2/\p.2<=9999)(h:Zp a b c m L=0):Zp a b c m (Zla L i k p)=0:=by
 refine Zm2 (Zlb _ _ _ _) (fun j x x' hx hx'=> ?_) h;obtain⟨y,hy,rfl⟩:=Zlc hx';rw[hx] at hy;injection hy with hy;subst hy;have B5:=(ZlF h).ok x (YQ hx);split
 ·refine⟨Zle _ _ _,fun j hj=> ?_⟩;rw[Zm3 hk hj];split
  ·exact hp
  ·exact B5 j
 ·exact⟨rfl,fun j _=>B5 j⟩
set_option linter.all false
def lessL:List Int->List Int->Bool
 |[],[]=>false
 |[],_::_=>true
 |_::_,[]=>false
 |x::l,y::k=>if x=y then lessL l k else decide (x<y)
theorem ZgP(x:Int)(l k:List Int):lessL (x::l) (x::k)=lessL l k:=by rw[lessL,if_pos rfl]
theorem chooseR_iff:∀(s l:List Int),l∈chooseR s↔l.Sublist s
 |[],l=>by simp[chooseR]
 |x::t,l=>by
  have h:l∈chooseR (x::t)↔(l=[]\/(∃c∈chooseR t,x::c=l)\/l∈(chooseR t).tail):=by
   show l∈[]::((chooseR t).map (x::·)++(chooseR t).tail)↔_;rw[List.mem_cons,List.mem_append,List.mem_map]
  rw[h];constructor
  ·rintro(rfl|⟨c,hc,rfl⟩|h)
   ·exact List.nil_sublist _
   ·exact((chooseR_iff t c).1 hc).cons_cons x
   ·exact((chooseR_iff t l).1 (by rw[chooseR_head];exact YW _ h)).cons x
  ·intro h;cases h with
   |cons _ h=>
    have h2:=(chooseR_iff t l).2 h;rw[chooseR_head] at h2;rcases List.mem_cons.1 h2 with h2|h2
    ·exact .inl h2
    ·exact .inr (.inr h2)
   |cons_cons _ h=>exact .inr (.inl ⟨_,(chooseR_iff t _).2 h,rfl⟩)
theorem chooseR_less:∀(s:List Int),s.Pairwise (·<·)->(chooseR s).Pairwise fun l k=>lessL l k=true
 |[],_=>by simp[chooseR]
 |x::t,h=>by
  have ih:=chooseR_less t (List.Pairwise.of_cons h);have iht:(chooseR t).tail.Pairwise fun l k=>lessL l k=true:=ih.sublist (List.tail_sublist _)
  show([]::((chooseR t).map (x::·)++(chooseR t).tail)).Pairwise _;rw[List.pairwise_cons,List.pairwise_append,List.pairwise_map];refine⟨fun k hk=> ?_,ih.imp fun h=>by rw[ZgP];exact h,iht,fun l hl k hk=> ?_⟩
  ·cases k with
   |nil=>
    rcases List.mem_append.1 hk with h|h
    ·obtain⟨c,_,hc⟩:=List.mem_map.1 h;cases hc
    ·exact absurd rfl (chooseR_ne t _ h)
   |cons y k=>rfl
  ·obtain⟨c,_,rfl⟩:=List.mem_map.1 hl;have A9:=chooseR_ne t k hk;have hs:=(chooseR_iff t k).1 (by rw[chooseR_head];exact YW _ hk);cases k with
   |nil=>exact absurd rfl A9
   |cons y k=>
    have C5:x<y:=List.rel_of_pairwise_cons h (hs.subset YY);show lessL (x::c) (y::k)=true;rw[lessL,if_neg (by omega)];exact decide_eq_true C5
theorem ZgS(a b c:Int)(L:List Sf)(m:Nat)(s:List Int)(h:s.Pairwise (·<·)):(ZgO a b c L m s).Pairwise fun l k=>lessL l k=true:=(chooseR_less s h).sublist (List.filter_sublist)
theorem ZgT{a b c:Int}{L:List Sf}{m:Nat}{s l:List Int}:l∈ZgO a b c L m s↔l.Sublist s/\l.length=m/\Zr (apA a b c L l)=1:=by
 rw[ZgO,List.mem_filter,chooseR_iff];simp
theorem ZgK(n:Nat):((List.range n).map fun(i:Nat)=>(i:Int)).Pairwise (·<·):=by
 rw[List.pairwise_map];exact(List.pairwise_lt_range (n:=n)).imp fun h=>by omega
set_option linter.all false
def fitA(r0 r1 r2 r3:Int)(S:List Rs):Bool:=Z20 r0 r1 r2 r3 S (upL S.length)
section
variable {r0 r1 r2 r3:Int} {S:List Rs} (hc:ZC r0 r1 r2 r3 S=0)
include hc
omit hc
theorem Zj9(n:Nat):(upL n).Pairwise (·<·):=ZgK n
theorem less_self:∀(l:List Int),lessL l l=false
 |[]=>rfl
 |x::l=>by rw[ZgP];exact less_self l
theorem Zjd{α:Type}[DecidableEq α]:∀{P Q:List α},P.Nodup->(∀x∈P,x∈Q)->P.length<=Q.length
 |[],_,_,_=>Nat.zero_le _
 |x::P,Q,hd,h=>by
  have hx:=h x (by simp);have Vz:=List.nodup_cons.1 hd;have:=Zjd (Q:=Q.erase x) Vz.2 fun y hy=>(List.mem_erase_of_ne (by rintro rfl;exact Vz.1 hy)).2 (h y (by simp[hy]))
  rw[List.length_erase_of_mem hx] at this;have:=List.length_pos_of_mem hx;simp only[YP];omega
theorem eq_of_asc:∀{l k:List Int},l.Pairwise (·<·)->k.Pairwise (·<·)->(∀x,x∈l↔x∈k)->l=k
 |[],[],_,_,_=>rfl
 |[],y::k,_,_,h=>by have:=(h y).2 (by simp);simp at this
 |x::l,[],_,_,h=>by have:=(h x).1 (by simp);simp at this
 |x::l,y::k,hl,hk,h=>by
  have h1:=List.pairwise_cons.1 hl;have h2:=List.pairwise_cons.1 hk;have a1:=List.mem_cons.1 ((h x).1 (by simp));have a2:=List.mem_cons.1 ((h y).2 (by simp));obtain rfl:x=y:=by
   rcases a1 with a1|a1
   ·exact a1
   ·rcases a2 with a2|a2
    ·exact a2.symm
    ·have:=h2.1 x a1;have:=h1.1 y a2;omega
  congr 1
  refine eq_of_asc h1.2 h2.2 fun z=> ?_
  have hz:=h z;rw[List.mem_cons,List.mem_cons] at hz;constructor
  ·intro hm;have:=h1.1 z hm;rcases hz.1 (.inr hm) with e|e
   ·omega
   ·exact e
  ·intro hm;have:=h2.1 z hm;rcases hz.2 (.inr hm) with e|e
   ·omega
   ·exact e
end
structure Clsh(r0 r1 r2 r3:Int)(S:List Rs)(C T:List Int):Prop where
 ck:C∈chooseR (upL S.length)
 tk:T∈chooseR (upL S.length)
 fit:Z20 r0 r1 r2 r3 S T=true
 none_:fitA r0 r1 r2 r3 S=true->C=[]
 two:fitA r0 r1 r2 r3 S=false->C.length=2/\Z20 r0 r1 r2 r3 S C=false
 first:∀l,l∈chooseR (upL S.length)->l.length=2->Z20 r0 r1 r2 r3 S l=false->lessL l C=false
 most:∀l,l∈chooseR (upL S.length)->Z20 r0 r1 r2 r3 S l=true->l.length<T.length\/(l.length=T.length/\lessL l T=false)
section
variable {r0 r1 r2 r3:Int} {S:List Rs} {C T:List Int} (hc:ZC r0 r1 r2 r3 S=0) (h:Clsh r0 r1 r2 r3 S C T)
include h
include hc
end
set_option linter.all false
def Disj(l k:List Int):Prop:=∀x∈l,x∉k
theorem Disj.symm{l k:List Int}(h:Disj l k):Disj k l:=fun x hx hl=>h x hl hx
theorem ZlW{l k:List Int}:ZQ l k=false↔Disj l k:=by
 unfold ZQ Disj;rw[List.any_eq_false];simp
structure Pack(T:List (List Int))(taken:List Int)(P:List (List Int)):Prop where
 sub:P.Sublist T
 dis:P.Pairwise Disj
 free:∀l∈P,Disj l taken
theorem Zli{s:List Int}{t:List (List Int)}{taken:List Int}(h:ZQ s taken=false):shareL [] (s::t) taken=Z0q (s::shareL [] t (taken++s)) (shareL [] t taken):=by
 rw[shareL,if_neg (by rw[h];decide),if_pos (by simp),shareL_best]
theorem shareL_pack:∀(T:List (List Int))(taken:List Int),Pack T taken (shareL [] T taken)
 |[],taken=>⟨List.Sublist.refl _,List.Pairwise.nil,fun l hl=>by cases hl⟩
 |s::t,taken=>by
  have h1:=shareL_pack t taken;cases h:ZQ s taken with
  |true=>
   rw[shareL,if_pos h];exact⟨h1.sub.cons s,h1.dis,h1.free⟩
  |false=>
   have h2:=shareL_pack t (taken++s);rw[Zli h,Z0q];split
   ·exact⟨h1.sub.cons s,h1.dis,h1.free⟩
   ·refine⟨h2.sub.cons_cons s,List.pairwise_cons.2 ⟨fun l hl x hx hxl=>h2.free l hl x hxl (List.mem_append_right _ hx),h2.dis⟩,fun l hl=> ?_⟩;rcases List.mem_cons.1 hl with rfl|hl
    ·exact ZlW.1 h
    ·exact fun x hx ht=>h2.free l hl x hx (List.mem_append_left _ ht)
theorem Pack.tail{s:List Int}{t P:List (List Int)}{taken:List Int}(h:Pack (s::t) taken (s::P)):ZQ s taken=false/\Pack t (taken++s) P:=by
 have h1:=List.pairwise_cons.1 h.dis;refine⟨ZlW.2 (h.free s (by simp)),⟨?_,h1.2,fun l hl x hx hm=> ?_⟩⟩
 ·have:=h.sub;cases this with
  |cons _ h=>exact(List.sublist_cons_self s P).trans h
  |cons_cons _ h=>exact h
 ·rcases List.mem_append.1 hm with hm|hm
  ·exact h.free l (by simp[hl]) x hx hm
  ·exact h1.1 l hl x hm hx
theorem shareL_most:∀(T:List (List Int))(taken:List Int)(P:List (List Int)),Pack T taken P->P.length<=(shareL [] T taken).length
 |[],taken,P,h=>by
  have:=h.sub;rw[List.sublist_nil.1 this];simp
 |s::t,taken,P,h=>by
  have key:(shareL [] t taken).length<=(shareL [] (s::t) taken).length:=by
   cases hc:ZQ s taken with
   |true=>rw[shareL,if_pos hc];exact Nat.le_refl _
   |false=>rw[Zli hc,Z0q];split<;>omega
  have E5:=h.sub;cases E5 with
  |cons _ hs=>exact Nat.le_trans (shareL_most t taken P ⟨hs,h.dis,h.free⟩) key
  |cons_cons _ hs=>
   rename_i P';obtain⟨hc,h2⟩:=h.tail;have:=shareL_most t _ _ h2;rw[Zli hc,Z0q];split
   ·rename_i A4;simp only[YP] at A4⊢;omega
   ·simp only[YP];omega
theorem ZlU{T P:List (List Int)}{taken:List Int}(hn:T.Nodup)(hT:∀l∈T,l≠[])(hm:∀l∈P,l∈T)(hd:P.Pairwise Disj)(hf:∀l∈P,Disj l taken):P.length<=(shareL [] T taken).length:=by
 have Up:P.Nodup:=by
  refine hd.imp_of_mem fun{a b} ha hb h e=> ?_
  subst e;obtain⟨x,hx⟩:=List.exists_mem_of_ne_nil _ (hT _ (hm _ ha));exact h x hx hx
 have hQ:Pack T taken (T.filter fun l=>decide (l∈P)):=by
  refine⟨List.filter_sublist,?_,fun l hl=>hf l (by simpa using(List.mem_filter.1 hl).2)⟩;have h1:(T.filter fun l=>decide (l∈P)).Pairwise (·≠·):=List.Pairwise.sublist List.filter_sublist hn;refine h1.imp_of_mem fun{a b} ha hb A9=> ?_
  have Pw:a∈P:=by simpa using(List.mem_filter.1 ha).2
  have Ao:b∈P:=by simpa using(List.mem_filter.1 hb).2
  obtain⟨i,hi⟩:=List.mem_iff_getElem?.1 Pw;obtain⟨j,hj⟩:=List.mem_iff_getElem?.1 Ao;obtain⟨G7,D9⟩:=YI.1 hi;obtain⟨Yk,G8⟩:=YI.1 hj;rcases Nat.lt_trichotomy i j with h|h|h
  ·have:=List.pairwise_iff_getElem.1 hd i j G7 Yk h
   rwa [D9,G8] at this
  ·subst h;rw[D9] at G8;exact absurd G8 A9
  ·have:=List.pairwise_iff_getElem.1 hd j i Yk G7 h;rw[D9,G8] at this;exact this.symm
 exact Nat.le_trans (Zjd Up fun l hl=>List.mem_filter.2 ⟨hm l hl,decide_eq_true hl⟩) (shareL_most T taken _ hQ)
theorem Zlq{T:List (List Int)}(h:T.Pairwise fun l k=>lessL l k=true):T.Nodup:=by
 refine h.imp fun{a b} Cg e=> ?_
 subst e;rw[less_self] at Cg;cases Cg
set_option linter.all false
set_option linter.all false
theorem Zhj(bl:Option Addr)(k cl:Nat)(l:List Int)(x:Int)(w:World)(hk:l.length=k)(hb:k<=1000000)(hl:RawI w bl l):
 Calls prog 39 #[.slice bl k cl,.int .i64 x] w fun e w'=>e= .returned (.bool (decide (x∈l)))/\Ext w w':=by
 have H:Hid (decide (x∈l)=decide (x∈l.drop 0)):=rfl;replace hk:Hid (l.length=k):=hk;have Fo:Hid (RawI w bl l):=hl;clear hl;go_enter func39,ntmps39;go_wp2;go_loopw [5] (fun v wr=>∃i:Nat,i<=k/\v= .int .i64 i/\Ext w wr/\Hid (decide (x∈l)=decide (x∈l.drop i))) (fun v _=>k - (intOf v).toNat)
 case atStart=>exact⟨0,Nat.zero_le _,rfl,Ext.rfl' w,H⟩
 case round=>
  clear H;obtain⟨i,hi,rfl,hE,HP⟩:=hrel;by_cases V8:i=k
  ·have HR:Hid (decide (x∈l)=false):=by show _=_;rw[HP.out,V8,<-hk.out,List.drop_length];simp
   subst V8;clear HP;go_wp2;go_ret;exact⟨ZP HR.out.symm,hE⟩
  ·have A4:i<k:=by omega
   have Ev:(i:Int)<(k:Int):=by omega
   obtain⟨y,hy⟩:∃y,l[i]? =some y:=⟨_,YH (by have:=hk.out;omega)⟩;obtain⟨b,o,rfl,B6,hc⟩:=(Fo.out.ext hE) i y hy;by_cases C5:y=x
   ·have HR:Hid (decide (x∈l)=true):=decide_eq_true (C5▸YQ hy);subst C5;clear Fo hy HP;go_wp2;go_ret;exact⟨ZP HR.out.symm,hE⟩
   ·have HN:Hid (decide (x∈l)=decide (x∈l.drop (i+1))):=by
     show _=_;rw[HP.out,Z0b hy,Bool.eq_iff_iff];simp[Ne.symm C5]
    clear hy HP;go_wp2;exact⟨⟨i+1,by omega,by push_cast;rfl,hE,HN⟩,by simp[intOf];omega⟩
set_option linter.all false
set_option linter.all false
set_option linter.all false
set_option linter.all false
set_option linter.all false
theorem Zhq(a b c m:Int)(L:List Sf):Zo a b c m L []=Zp a b c m L:=by
 rw[Zo,firstV];split
 ·rename_i h;rw[h];rfl
 ·rfl
theorem ZhG{a b c m:Int}{L:List Sf}(k:Int):Zo a b c m L [k]=if Zp a b c m L=0 then(if 0<=k/\k<=(L.length:Int) - 1 then 0 else 6) else Zp a b c m L:=by
 rw[Zo,firstV];split
 ·simp only[firstV,Zq,Z1k];by_cases h:0<=k/\k<=(L.length:Int) - 1
  ·rw[if_pos h];simp[h]
  ·rw[if_neg h];simp[h]
 ·rfl
set_option linter.all false
structure SetOk(a b c:Int)(m:Nat)(L:List Sf)(out:Int->Prop)(l:List Int):Prop where
 asc:l.Pairwise (·<·)
 mem:∀i∈l,0<=i/\i<L.length/\¬out i
 len:l.length=m
 yes:Zr (apA a b c L l)=1
def Can(a b c:Int)(m:Nat)(L:List Sf)(out:Int->Prop)(q:Nat):Prop:=∃P:List (List Int),P.length=q/\(∀l∈P,SetOk a b c m L out l)/\P.Pairwise Disj
theorem ZlV{l s:List Int}(hl:l.Pairwise (·<·))(hs:s.Pairwise (·<·))(h:∀i∈l,i∈s):l.Sublist s:=by
 have e:l=s.filter fun x=>decide (x∈l):=eq_of_asc hl (hs.sublist List.filter_sublist) fun x=>by
  rw[List.mem_filter,decide_eq_true_eq];exact⟨fun hx=>⟨h x hx,hx⟩,fun hx=>hx.2⟩
 rw[e];exact List.filter_sublist
section
variable {a b c:Int} {m:Nat} {L:List Sf} {out:Int->Prop}
theorem Zlr{s:List Int}(hs:s.Pairwise (·<·))(hm:∀i,i∈s↔0<=i/\i<L.length/\¬out i){l:List Int}:l∈ZgO a b c L m s↔SetOk a b c m L out l:=by
 rw[ZgT];constructor
 ·rintro⟨h1,h2,h3⟩;exact⟨hs.sublist h1,fun i hi=>(hm i).1 (h1.subset hi),h2,h3⟩
 ·rintro⟨h1,h2,h3,h4⟩;exact⟨ZlV h1 hs fun i hi=>(hm i).2 (h2 i hi),h3,h4⟩
theorem ZlG{s:List Int}(hs:s.Pairwise (·<·))(hm:∀i,i∈s↔0<=i/\i<L.length/\¬out i)(h0:0<m):
 Can a b c m L out (shareL [] (ZgO a b c L m s) []).length/\∀q,Can a b c m L out q->q<=(shareL [] (ZgO a b c L m s) []).length:=by
 have hp:=shareL_pack (ZgO a b c L m s) [];refine⟨⟨_,rfl,fun l hl=>(Zlr hs hm).1 (hp.sub.subset hl),hp.dis⟩,?_⟩;rintro q ⟨P,rfl,hP,hd⟩;refine ZlU (Zlq (ZgS a b c L m s hs)) (fun l hl e=> ?_) (fun l hl=>(Zlr hs hm).2 (hP l hl)) hd fun l _ x _ hx=>by cases hx
 have:=((Zlr hs hm).1 hl).len;rw[e] at this;simp at this;omega
theorem Zmj{x y:Sf}{k:Nat}:Z1m a b c x y k=1↔(spA x k).2 - (spA y k).1<=alw a b c k/\(spA y k).2 - (spA x k).1<=alw a b c k:=by
 unfold Z1m Z2Q;split
 ·rename_i h;exact⟨fun _=>h,fun _=>rfl⟩
 ·rename_i h;constructor
  ·intro e;split at e<;>cases e
  ·exact fun e=>absurd e h
theorem ZlH{x y:Sf}{k:Nat}(h:Z1m a b c x y k=1):Z1m a b c y x k=1:=Zmj.2 (Zmj.1 h).symm
def ZlT(n:Nat)(f:Int->Int)(l:List Int):List Int:=(upL n).filter fun j=>l.any fun i=>f i==j
theorem ZlO{n:Nat}{f:Int->Int}{l:List Int}{j:Int}:j∈ZlT n f l↔(0<=j/\j<n)/\∃i∈l,f i=j:=by
 rw[ZlT,List.mem_filter,Zjk,List.any_eq_true];simp
theorem Zls(n:Nat)(f:Int->Int)(l:List Int):(ZlT n f l).Pairwise (·<·):=(Zj9 n).sublist List.filter_sublist
theorem ZlI{l:List Int}(h:l.Pairwise (·<·)):l.Nodup:=h.imp fun{a b} Cg e=>by omega
variable {a' b' c':Int} {L':List Sf} {out':Int->Prop}
structure Into(a b c:Int)(L:List Sf)(out:Int->Prop)(a' b' c':Int)(L':List Sf)(out':Int->Prop)(f:Int->Int):Prop where
 mem:∀i:Int,0<=i->i<L'.length->¬out' i->0<=f i/\f i<L.length/\¬out (f i)
 inj:∀i j:Int,0<=i->i<L'.length->0<=j->j<L'.length->¬out' i->¬out' j->f i=f j->i=j
 yes:∀(i j:Int)(x y x' y':Sf),0<=i->0<=j->¬out' i->¬out' j->L'[i.toNat]? =some x'->L'[j.toNat]? =some y'->L[(f i).toNat]? =some x->L[(f j).toNat]? =some y->∀k:Nat,k<3->Z1m a' b' c' x' y' k=1->Z1m a b c x y k=1
theorem Into.img{f:Int->Int}(h:Into a b c L out a' b' c' L' out' f){l:List Int}(hl:l.Pairwise (·<·))(Aw:∀i∈l,0<=i/\i<L'.length/\¬out' i):(ZlT L.length f l).length=l.length/\(∀j∈ZlT L.length f l,0<=j/\j<L.length/\¬out j)/\(Zr (apA a' b' c' L' l)=1->Zr (apA a b c L (ZlT L.length f l))=1):=by
 have B8:∀j,j∈ZlT L.length f l↔j∈l.map f:=by
  intro j;rw[ZlO,List.mem_map];constructor
  ·rintro⟨_,h⟩;exact h
  ·rintro⟨i,hi,rfl⟩;have:=Aw i hi;have:=h.mem i this.1 this.2.1 this.2.2;exact⟨⟨this.1,this.2.1⟩,i,hi,rfl⟩
 refine⟨?_,fun j hj=> ?_,fun hy=> ?_⟩
 ·have n1:=ZlI (Zls L.length f l);have n2:(l.map f).Nodup:=by
   show(l.map f).Pairwise (·≠·);rw[List.pairwise_map];refine hl.imp_of_mem fun{x y} hx hy C5 e=> ?_
   have h1:=Aw x hx;have h2:=Aw y hy;have:=h.inj x y h1.1 h1.2.1 h2.1 h2.2.1 h1.2.2 h2.2.2 e;omega
  have l1:=Zjd n1 fun x hx=>(B8 x).1 hx
  have l2:=Zjd n2 fun x hx=>(B8 x).2 hx
  rw[List.length_map] at l1 l2;omega
 ·obtain⟨i,hi,rfl⟩:=List.mem_map.1 ((B8 j).1 hj);have:=Aw i hi;exact h.mem i this.1 this.2.1 this.2.2
 ·rw[Zlp hl] at hy;refine(Zlp (Zls _ _ _)).2 fun p q x y ⟨hp,hq,Ft,hx,Jt⟩ k hk=> ?_
  obtain⟨i,hi,rfl⟩:=List.mem_map.1 ((B8 p).1 hp);obtain⟨j,hj,rfl⟩:=List.mem_map.1 ((B8 q).1 hq);have h1:=Aw i hi;have h2:=Aw j hj;obtain⟨x',hx'⟩:∃x,L'[i.toNat]? =some x:=⟨_,YH (by omega)⟩;obtain⟨y',hy'⟩:∃y,L'[j.toNat]? =some y:=⟨_,YH (by omega)⟩;rcases Int.lt_trichotomy i j with Ec|Ec|Ec
  ·exact h.yes i j x y x' y' h1.1 h2.1 h1.2.2 h2.2.2 hx' hy' hx Jt k hk (hy i j x' y' ⟨hi,hj,Ec,hx',hy'⟩ k hk)
  ·subst Ec;omega
  ·exact ZlH (h.yes j i y x y' x' h2.1 h1.1 h2.2.2 h1.2.2 hy' hx' Jt hx k hk (hy j i y' x' ⟨hj,hi,Ec,hy',hx'⟩ k hk))
theorem Into.can{f:Int->Int}(h:Into a b c L out a' b' c' L' out' f){q:Nat}(hq:Can a' b' c' m L' out' q):Can a b c m L out q:=by
 obtain⟨P,rfl,hP,hd⟩:=hq;refine⟨P.map (ZlT L.length f),List.length_map ..,?_,?_⟩
 ·intro l hl;obtain⟨l',hl',rfl⟩:=List.mem_map.1 hl;have hs:=hP l' hl';obtain⟨h1,h2,h3⟩:=h.img hs.asc hs.mem;exact⟨Zls _ _ _,h2,h1.trans hs.len,h3 hs.yes⟩
 ·rw[List.pairwise_map];refine hd.imp_of_mem fun{l k} hl hk Fc x hx Bv=> ?_
  obtain⟨_,i,hi,rfl⟩:=ZlO.1 hx;obtain⟨_,j,hj,e⟩:=ZlO.1 Bv;have h1:=(hP l hl).mem i hi;have h2:=(hP k hk).mem j hj;have:=h.inj j i h2.1 h2.2.1 h1.1 h1.2.1 h2.2.2 h1.2.2 e;subst this;exact Fc _ hi hj
theorem Zn0{k:Int}:∀{P:List (List Int)},P.Pairwise Disj->P.length<=(P.filter fun l=>decide (k∉l)).length+1
 |[],_=>by simp
 |l::P,h=>by
  have h1:=List.pairwise_cons.1 h;by_cases hk:k∈l
  ·have e:P.filter (fun l=>decide (k∉l))=P:=List.filter_eq_self.2 fun t ht=>decide_eq_true fun Xw=>h1.1 t ht k hk Xw
   rw[List.filter_cons,if_neg (by simpa using hk),e,YP];exact Nat.le_refl _
  ·rw[List.filter_cons,if_pos (by simpa using hk)];have:=Zn0 (k:=k) h1.2;simp only[YP];omega
theorem Can.drop{q:Nat}(k:Int)(h:Can a b c m L (fun _=>False) q):∃r,q<=r+1/\Can a b c m L (fun i=>i=k) r:=by
 obtain⟨P,rfl,hP,hd⟩:=h;refine⟨_,Zn0 (k:=k) hd,_,rfl,fun l hl=> ?_,hd.sublist List.filter_sublist⟩;obtain⟨h1,h2⟩:=List.mem_filter.1 hl;have hs:=hP l h1;exact⟨hs.asc,fun i hi=>⟨(hs.mem i hi).1,(hs.mem i hi).2.1,by rintro rfl;exact(of_decide_eq_true h2) hi⟩,hs.len,hs.yes⟩
theorem Can.any{q:Nat}(h:Can a b c m L out q):Can a b c m L (fun _=>False) q:=by
 obtain⟨P,rfl,hP,hd⟩:=h;exact⟨P,rfl,fun l hl=>⟨(hP l hl).asc,fun i hi=>⟨((hP l hl).mem i hi).1,((hP l hl).mem i hi).2.1,id⟩,(hP l hl).len,(hP l hl).yes⟩,hd⟩
end
theorem ZlJ{n:Nat}{out:Nat->Bool}{p:Int}:p∈ZeS n out 0↔0<=p/\p<n/\out p.toNat=false:=by
 constructor
 ·intro h;have:=Zh5 h;exact⟨this.1,this.2.1,this.2.2.1⟩
 ·rintro⟨h0,h1,h2⟩;refine List.mem_map.2 ⟨p.toNat,List.mem_filter.2 ⟨?_,by simp[h2]⟩,by omega⟩;rw[List.mem_range'_1];omega
theorem ZlA{a b c m:Int}{L:List Sf}(h:Zp a b c m L=0):Can a b c m.toNat L (fun _=>False) (Z66 a b c m L).length/\∀q,Can a b c m.toNat L (fun _=>False) q->q<=(Z66 a b c m L).length:=by
 have hm:=(ZlF h).m;rw[Z66,if_pos (by rw[Zhq];exact h),ZhE _ _ _ _ _ _ (by omega)];refine ZlG (Zhp _ _ _) (fun i=> ?_) (by omega);rw[ZlJ];simp
theorem Zne{a b c m:Int}{L:List Sf}(h:Zp a b c m L=0){k:Int}(hk:0<=k/\k<L.length):∃r:Nat,Z1Y a b c m L k=r/\Can a b c m.toNat L (fun i=>i=k) r/\∀q,Can a b c m.toNat L (fun i=>i=k) q->q<=r:=by
 have hm:=(ZlF h).m;refine⟨_,?_,ZlG (s:=ZeS L.length (fun j=>j==k.toNat) 0) (Zhp _ _ _) (fun i=> ?_) (by omega)⟩
 ·rw[Z1Y,if_pos (by rw[ZhG,if_pos h,if_pos (by omega)]),ZhE _ _ _ _ _ _ (by omega)]
 ·rw[ZlJ,beq_eq_false_iff_ne];constructor
  ·rintro⟨h1,h2,h3⟩;exact⟨h1,h2,by rintro rfl;exact h3 rfl⟩
  ·rintro⟨h1,h2,h3⟩;exact⟨h1,h2,by omega⟩
theorem Znf{a b c m:Int}{L:List Sf}(h:Zp a b c m L=0){k:Int}(hk:k∈Z6T a b c m L):Can a b c m.toNat L (fun i=>i=k) (Z66 a b c m L).length:=by
 have ho:Zo a b c m L []=0:=by rw[Zhq];exact h
 have hm:=(ZlF h).m;rw[Z6T,if_pos ho,Z32] at hk;obtain⟨i,hi,rfl⟩:=List.mem_map.1 hk;have D9:=(List.mem_filter.1 hi).2;have Di:∀l∈Z66 a b c m L,(i:Int)∉l:=by
  intro l hl hil;rw[inL,Bool.not_eq_true',List.any_eq_false] at D9;exact D9 l hl (by simpa using hil)
 rw[Z66,if_pos ho,ZhE _ _ _ _ _ _ (by omega)] at Di⊢;have hp:=shareL_pack (ZgO a b c L m.toNat (ZeS L.length (fun _=>false) 0)) [];refine⟨_,rfl,fun l hl=> ?_,hp.dis⟩;have hs:=(Zlr (out:=fun _=>False) (Zhp L.length (fun _=>false) 0) (fun i=>by rw[ZlJ];simp)).1 (hp.sub.subset hl);exact⟨hs.asc,fun j hj=>⟨(hs.mem j hj).1,(hs.mem j hj).2.1,by rintro rfl;exact Di l hl hj⟩,hs.len,hs.yes⟩
theorem shA_iff:∀{L:List Sf}{seen:List (List UInt8)},shA seen L=0↔(∀x∈L,Z2d x.nm=true/\Z8b x=true/\nmL x∉seen)/\(L.map nmL).Nodup
 |[],seen=>by simp[shA]
 |x::t,seen=>by
  rw[shA];cases hn:Z2d x.nm with
  |false=>simp[hn]
  |true=>
   rw[if_neg (by simp)];by_cases hs:nmL x∈seen
   ·rw[if_pos hs];constructor
    ·intro h;cases h
    ·rintro⟨h,_⟩;exact absurd hs (h x YY).2.2
   ·rw[if_neg hs];cases ho:Z8b x with
    |false=>simp[ho]
    |true=>
     rw[if_neg (by simp),shA_iff,List.map_cons,List.nodup_cons];constructor
     ·rintro⟨h1,h2⟩;refine⟨fun y hy=> ?_,fun hx=> ?_,h2⟩
      ·rcases List.mem_cons.1 hy with rfl|hy
       ·exact⟨hn,ho,hs⟩
       ·have:=h1 y hy;exact⟨this.1,this.2.1,fun h=>this.2.2 (List.mem_append_left _ h)⟩
      ·obtain⟨y,hy,e⟩:=List.mem_map.1 hx;exact(h1 y hy).2.2 (List.mem_append_right _ (by rw[e];exact List.mem_singleton_self _))
     ·rintro⟨h1,h2,h3⟩;refine⟨fun y hy=> ?_,h3⟩;have:=h1 y (YW _ hy);refine⟨this.1,this.2.1,fun h=> ?_⟩;rcases List.mem_append.1 h with h|h
      ·exact this.2.2 h
      ·exact h2 (List.mem_map.2 ⟨y,hy,List.mem_singleton.1 h⟩)
theorem ZlE{a b c m:Int}{L:List Sf}:Zp a b c m L=0↔Z2J a b c m=0/\L.length<=9/\(∀x∈L,Z2d x.nm=true/\Z8b x=true)/\(L.map nmL).Nodup:=by
 have h1:Zp a b c m L=0↔Z2J a b c m=0/\Zj L=0:=by
  rw[Zp];simp only[firstV];constructor
  ·intro h;split at h
   ·rename_i h0;split at h
    ·rename_i h1;exact⟨h0,h1⟩
    ·exact absurd h (by assumption)
   ·exact absurd h (by assumption)
  ·rintro⟨h0,h1⟩;rw[if_pos h0,if_pos h1]
 rw[h1,Zj];split
 ·rename_i h9;constructor
  ·rintro⟨_,h⟩;cases h
  ·rintro⟨_,h,_⟩;omega
 ·rename_i h9;rw[shA_iff];constructor
  ·rintro⟨h0,h1,h2⟩;exact⟨h0,by omega,fun x hx=>⟨(h1 x hx).1,(h1 x hx).2.1⟩,h2⟩
  ·rintro⟨h0,_,h1,h2⟩;exact⟨h0,fun x hx=>⟨(h1 x hx).1,(h1 x hx).2,List.not_mem_nil⟩,h2⟩
theorem Zn6{a b c m:Int}{L L':List Sf}(h:Zp a b c m L=0)(hs:L'.Sublist L):Zp a b c m L'=0:=by
 rw[ZlE] at h⊢;exact⟨h.1,Nat.le_trans hs.length_le h.2.1,fun x hx=>h.2.2.1 x (hs.subset hx),h.2.2.2.sublist (hs.map _)⟩
set_option linter.all false
section
variable {a b c:Int} {L:List Sf}
theorem Zna(x:Sf):Into a b c (L++[x]) (fun _=>False) a b c L (fun _=>False) id:=by
 refine⟨fun i h0 h1 _=>⟨h0,by rw[List.length_append];simp only[id];omega,id⟩,fun i j _ _ _ _ _ _ h=>h,?_⟩;intro i j u v u' v' _ _ _ _ hu' hv' hu hv k hk h;simp only[id] at hu hv;rw[List.getElem?_append_left (YI.1 hu').1,hu'] at hu;rw[List.getElem?_append_left (YI.1 hv').1,hv'] at hv;cases hu;cases hv;exact h
theorem Zn7{a2 b2 c2:Int}(ha:a<=a2)(hb:b<=b2)(hc:c<=c2):Into a2 b2 c2 L (fun _=>False) a b c L (fun _=>False) id:=by
 refine⟨fun i h0 h1 _=>⟨h0,h1,id⟩,fun i j _ _ _ _ _ _ h=>h,?_⟩;intro i j u v u' v' _ _ _ _ hu' hv' hu hv k hk h;simp only[id] at hu hv;rw[hu'] at hu;rw[hv'] at hv;cases hu;cases hv;rw[Zmj] at h⊢;have:alw a b c k<=alw a2 b2 c2 k:=by
  obtain rfl|rfl|rfl:k=0\/k=1\/k=2:=by omega
  ·exact ha
  ·exact hb
  ·exact hc
 omega
theorem Zng{i k:Nat}{p:Int×Int}(hk:k<3)(hp:∀x,L[i]? =some x->(spA x k).1<=p.1/\p.2<=(spA x k).2):Into a b c (Zla L i k p) (fun _=>False) a b c L (fun _=>False) id:=by
 refine⟨fun i h0 h1 _=>⟨h0,by rw[Zlb];exact h1,id⟩,fun i j _ _ _ _ _ _ h=>h,?_⟩;have key:∀(j:Nat)(u u':Sf),L[j]? =some u'->(Zla L i k p)[j]? =some u->∀q,q<3->(spA u' q).1<=(spA u q).1/\(spA u q).2<=(spA u' q).2:=by
  intro j u u' hu' hu q hq;obtain⟨z,hz,rfl⟩:=Zlc hu;rw[hu'] at hz;cases hz;split
  ·rename_i e;subst e;rw[Zm3 hk hq];split
   ·rename_i e;subst e;exact hp _ hu'
   ·exact⟨Int.le_refl _,Int.le_refl _⟩
  ·exact⟨Int.le_refl _,Int.le_refl _⟩
 intro x y u v u' v' _ _ _ _ hu' hv' hu hv q hq h;have h1:=key _ u u' hu' hu q hq;have h2:=key _ v v' hv' hv q hq;rw[Zmj] at h⊢;omega
def ZmY(L:List Sf)(k:Nat):List Sf:=L.take k++L.drop (k+1)
theorem ZmZ{k:Nat}(hk:k<L.length):(ZmY L k).length+1=L.length:=by
 rw[ZmY,List.length_append,List.length_take,List.length_drop];omega
theorem Zn4{k:Nat}(hk:k<L.length)(i:Nat):(ZmY L k)[i]? =if i<k then L[i]? else L[i+1]? :=by
 unfold ZmY;by_cases h:i<k
 ·rw[List.getElem?_append_left (by rw[List.length_take];omega),List.getElem?_take,if_pos h,if_pos h]
 ·rw[List.getElem?_append_right (by rw[List.length_take];omega),List.length_take,List.getElem?_drop,if_neg h];congr 1;omega
theorem Zn5(k:Nat):(ZmY L k).Sublist L:=by
 have:L=L.take k++L.drop k:=(List.take_append_drop k L).symm;conv=>rhs;rw[this]
 refine List.Sublist.append (List.Sublist.refl _) ?_;rw[<-List.drop_drop];exact List.drop_sublist 1 _
theorem Znh{k:Nat}(hk:k<L.length):Into a b c L (fun i=>i=(k:Int)) a b c (ZmY L k) (fun _=>False) (fun i=>if i<k then i else i+1):=by
 have hl:=ZmZ hk;refine⟨fun i h0 h1 _=> ?_,fun i j _ _ _ _ _ _ h=> ?_,?_⟩
 ·split<;>omega
 ·split at h<;>split at h<;>omega
 ·intro i j x y x' y' h0 h1 _ _ hx' hy' hx hy q hq h;have key:∀(i:Int)(x x':Sf),0<=i->(ZmY L k)[i.toNat]? =some x'->L[(if i<k then i else i+1).toNat]? =some x->x=x':=by
   intro i x x' h0 h1 h2;rw[Zn4 hk] at h1;split at h2
   ·rw[if_pos (by omega),h2] at h1;exact YT h1
   ·rw[if_neg (by omega),show i.toNat+1=(i+1).toNat by omega,h2] at h1;exact YT h1
  obtain rfl:=key i x x' h0 hx' hx;obtain rfl:=key j y y' h1 hy' hy;exact h
theorem Zn8{k:Nat}(hk:k<L.length):Into a b c (ZmY L k) (fun _=>False) a b c L (fun i=>i=(k:Int)) (fun i=>if i<k then i else i - 1):=by
 have hl:=ZmZ hk;refine⟨fun i h0 h1 _=> ?_,fun i j _ _ _ _ _ _ h=> ?_,?_⟩
 ·refine⟨?_,?_,id⟩<;>split<;>omega
 ·split at h<;>split at h<;>omega
 ·intro i j x y x' y' h0 h1 hi hj hx' hy' hx hy q hq h;have key:∀(i:Int)(x x':Sf),0<=i->¬i=(k:Int)->L[i.toNat]? =some x'->(ZmY L k)[(if i<k then i else i - 1).toNat]? =some x->x=x':=by
   intro i x x' h0 hi h1 h2;rw[Zn4 hk] at h2;split at h2
   ·rw[if_pos (by omega),h1] at h2;exact(YT h2).symm
   ·rw[if_neg (by omega),show(i - 1).toNat+1=i.toNat by omega,h1] at h2;exact(YT h2).symm
  obtain rfl:=key i x x' h0 hi hx' hx;obtain rfl:=key j y y' h1 hj hy' hy;exact h
end
structure Stks(a b c m:Int)(L:List Sf)(k:Nat):Prop where
 le:Z1Y a b c m L k<=(Z66 a b c m L).length
 ge:((Z66 a b c m L).length:Int) - 1<=Z1Y a b c m L k
 left:(k:Int)∈Z6T a b c m L->Z1Y a b c m L k=(Z66 a b c m L).length
 cut:Zp a b c m (ZmY L k)=0/\((Z66 a b c m (ZmY L k)).length:Int)=Z1Y a b c m L k
theorem stks{a b c m:Int}{L:List Sf}(h:Zp a b c m L=0){k:Nat}(hk:k<L.length):Stks a b c m L k:=by
 obtain⟨r,hr,h1,h2⟩:=Zne h (k:=(k:Int)) (by omega);obtain⟨h3,h4⟩:=ZlA h;have hc:=Zn6 h (Zn5 (L:=L) k);obtain⟨h5,h6⟩:=ZlA hc;have e1:r<=(Z66 a b c m L).length:=h4 _ h1.any;have e2:(Z66 a b c m L).length<=r+1:=by
  obtain⟨q,hq,hc⟩:=h3.drop (k:Int);have:=h2 _ hc;omega
 refine⟨by rw[hr];omega,by rw[hr];omega,fun hm=> ?_,hc,?_⟩
 ·have:=h2 _ (Znf h hm);rw[hr];omega
 ·have:=h2 _ ((Znh hk).can h5);have:=h6 _ ((Zn8 hk).can h1);rw[hr];omega
theorem ZlK{a b c a' b' c' m:Int}{L L':List Sf}{f:Int->Int}(h:Zp a b c m L=0)(h':Zp a' b' c' m L'=0)(hi:Into a b c L (fun _=>False) a' b' c' L' (fun _=>False) f):(Z66 a' b' c' m L').length<=(Z66 a b c m L).length:=
 (ZlA h).2 _ (hi.can (ZlA h').1)
structure Turn(L L':List Sf)(v:Nat):Prop where
 pos:0<L.length
 len:L'.length=L.length
 get:∀j,j<L.length->L'[j]? =L[(j+v) % L.length]?
section
variable {a b c:Int} {L L':List Sf} {v:Nat} (h:Turn L L' v)
include h
end
set_option linter.all false
def sfV(x:Sf):List Value:=[.string x.nm,.int .i64 x.a0,.int .i64 x.a1,.int .i64 x.b0,.int .i64 x.b1,.int .i64 x.c0,.int .i64 x.c1]
def ZkU(L:List Sf):List Value:=L.flatMap sfV
theorem sfsV_len:∀S:List Sf,(ZkU S).length=S.length*7
 |[]=>rfl
 |s::S=>by
  have:=sfsV_len S;simp only[ZkU,List.flatMap_cons,List.length_append,YP] at*;rw[this];simp[sfV];omega
theorem sfsV_at:∀(S:List Sf)(i:Nat)(s:Sf),S[i]? =some s->∀c,c<7->(ZkU S)[i*7+c]? =(sfV s)[c]?
 |[],i,s,h,c,hc=>by simp at h
 |x::S,0,s,h,c,hc=>by
  obtain rfl:x=s:=by simpa using h
  simp only[ZkU,List.flatMap_cons];rw[List.getElem?_append_left (by simp[sfV];omega)];simp
 |x::S,i+1,s,h,c,hc=>by
  have ih:=sfsV_at S i s (by simpa using h) c hc;simp only[ZkU,List.flatMap_cons] at*;rw[List.getElem?_append_right (by simp[sfV];omega),<-ih];congr 1;simp[sfV];omega
theorem Zly(S T:List Sf):ZkU (S++T)=ZkU S++ZkU T:=by simp[ZkU]
theorem Zl3(S:List Sf):∀u∈ZkU S,u.oneCell'=true:=by
 intro u hu;obtain⟨s,_,hs⟩:=List.mem_flatMap.1 hu;simp only[sfV,List.mem_cons,List.not_mem_nil,or_false] at hs;rcases hs with rfl|rfl|rfl|rfl|rfl|rfl|rfl<;>rfl
theorem ZkQ{w:World}{B O:Nat}{S:List Sf}(h:RawA w (some ⟨B,O,none⟩) S):∀j u,(ZkU S)[j]? =some u->w.cell? ((⟨B,O,none⟩:Addr).add j)=some u:=by
 intro j u hj;have A4:=(YI.1 hj).1;rw[sfsV_len] at A4;have hi:j / 7<S.length:=by omega
 obtain⟨s,hs⟩:∃s,S[j / 7]? =some s:=⟨_,YH hi⟩;have h1:=sfsV_at S (j / 7) s hs (j % 7) (Nat.mod_lt _ (by omega));rw[show j / 7*7+j % 7=j by omega,hj] at h1;obtain⟨b,o,e,_,sh,_⟩:=h _ s hs;obtain⟨rfl,rfl⟩:B=b/\O=o:=by simpa using e
 have e2:(⟨B,O,none⟩:Addr).add j=⟨B,O+j / 7*7+j % 7,none⟩:=by rw[Zh7];congr 1;omega
 rw[e2];have hm:j % 7<7:=Nat.mod_lt _ (by omega);generalize j % 7=c at h1 hm
 match c,hm,h1 with
 |0,_,h1=>simp[sfV] at h1;rw[h1];exact sh.k0
 |1,_,h1=>simp[sfV] at h1;rw[h1];exact sh.k1
 |2,_,h1=>simp[sfV] at h1;rw[h1];exact sh.k2
 |3,_,h1=>simp[sfV] at h1;rw[h1];exact sh.k3
 |4,_,h1=>simp[sfV] at h1;rw[h1];exact sh.k4
 |5,_,h1=>simp[sfV] at h1;rw[h1];exact sh.k5
 |6,_,h1=>simp[sfV] at h1;rw[h1];exact sh.k6
theorem ZkS{w:World}{B O:Nat}{S:List Sf}(hB:B<w.heap.size)(hn:∀x∈S,x.nm.size<=maxLen)(h:∀j u,(ZkU S)[j]? =some u->w.cell? ⟨B,O+j,none⟩=some u):RawA w (some ⟨B,O,none⟩) S:=by
 intro i s hs;have k:=fun c (hc:c<7) u (hu:(sfV s)[c]? =some u)=>h (i*7+c) u ((sfsV_at S i s hs c hc).trans hu)
 refine⟨B,O,rfl,hB,?_,hn s (YQ hs)⟩;have k0:=k 0 (by omega) _ rfl;have k1:=k 1 (by omega) _ rfl;have k2:=k 2 (by omega) _ rfl;have k3:=k 3 (by omega) _ rfl;have k4:=k 4 (by omega) _ rfl;have k5:=k 5 (by omega) _ rfl;have k6:=k 6 (by omega) _ rfl;exact⟨k0,k1,k2,k3,k4,k5,k6⟩
theorem RawA.size{w:World}{base:Option Addr}{L:List Sf}(h:RawA w base L):∀x∈L,x.nm.size<=maxLen:=by
 intro x hx;obtain⟨i,hi⟩:=List.mem_iff_getElem?.1 hx;obtain⟨_,_,_,_,_,h4⟩:=h i x hi;exact h4
theorem u24:prog.underlying 24=some (.slice 51):=(underlying_eq 24).trans Tryz.underlying24
theorem i51:prog.info? 51=some Tryz.t51:=by kernel_rfl
theorem t51z:Tryz.t51.zero=some (.agg #[.string .empty,.int .i64 0,.int .i64 0,.int .i64 0,.int .i64 0,.int .i64 0,.int .i64 0]):=by kernel_rfl
theorem t51s:Tryz.t51.size=7:=by kernel_rfl
theorem t51b:Tryz.t51.bytes=64:=by kernel_rfl
def OwnA(base:Nat)(w:World)(v:Value)(S:List Sf):Prop:=w.ownsRow base 51 7 v S.length (ZkU S)
theorem OwnA.ext{w w':World}{b:Nat}{v:Value}{S:List Sf}(h:OwnA b w v S)(hE:Ext w w'):OwnA b w' v S:=Z00 h hE
theorem OwnA.lt{w:World}{b:Nat}{v:Value}{S:List Sf}(h:OwnA b w v S)(k:Nat)(hk:v.ownBlock=some k):b<=k/\k<w.heap.size:=World.ownsRow.lt h k hk
theorem ZkR{w:World}{base b:Nat}(h:w.heap[b]? =some (.cells #[] 51))(hb:base<=b):OwnA base w (.slice (some ⟨b,0,none⟩) 0 0) []:=
 ⟨rfl,.inr ⟨b,0,#[],rfl,hb,h,Nat.le_refl _,by simp[maxLen],rfl,rfl⟩⟩
theorem OwnA.form{w:World}{b:Nat}{v:Value}{S:List Sf}(h:OwnA b w v S)(h0:0<S.length)(hn:∀x∈S,x.nm.size<=maxLen):∃g cap,v= .slice (some ⟨g,0,none⟩) S.length cap/\b<=g/\g<w.heap.size/\RawA w (some ⟨g,0,none⟩) S/\S.length<=cap/\cap<=maxLen:=by
 have hc:=fun g hg=>World.ownsRow.cells (g:=g) h hg
 rcases h.2 with⟨_,h1⟩|⟨g,cap,cur,rfl,hb,hg,h1,h2,_,_⟩
 ·omega
 ·refine⟨g,cap,rfl,hb,Z5 hg,ZkS (Z5 hg) hn fun j u hj=> ?_,h1,h2⟩;have:=hc g rfl j u hj;rw[Zh7] at this;exact this
theorem ZlM{o:Oper}{a:Act}{w:World}{K:Act->World->Prop}{Q:Exit->Act->World->Prop}(s x:Operand)(ho:o.op= .call {callee:= .builtin .append,args:= #[s,x],argTypes:= #[24,24]})
 (base:Nat)(v:Value)(T:List Sf)(hs:a.eval s=v)(Ak:OwnA base w v T)(ad:Addr)(c:Nat)(S:List Sf)(hx:a.eval x= .slice (some ad) S.length c)(Dy:∀j u,(ZkU S)[j]? =some u->w.cell? (ad.add j)=some u)
 (hb:T.length+S.length<=1000)(A5:base<=w.heap.size)(h:∀v' w',OwnA base w' v' (T++S)->w.grownBy w' v.ownBlock->K (a.put o.dst v') w'):o.wp prog a w K Q:=by
 refine wp_append_own w s x 24 ho base 51 Tryz.t51 _ 7 64 u24 i51 t51z t51s t51b rfl (by omega) v T.length (ZkU T) hs Ak ad S.length c (ZkU S) hx (sfsV_len S) Dy (Zl3 S) (by simp only[maxLen];omega) (by omega) A5 ?_;intro v' w' h1 h2 _;refine h v' w' ?_ h2;show w'.ownsRow base 51 7 v' (T++S).length (ZkU (T++S));rw[Zly,List.length_append];exact h1
end Go.Proofs.Tryq
namespace Go.Proofs.Tryq
set_option maxRecDepth 100000
set_option maxHeartbeats 4000000
open Go Go.Nk Go.RowKit
set_option linter.all false
theorem Zl6{base:Nat}{w:World}{v:Value}{n:Nat}{L:List Sf}(h:w.ownsRow base 51 7 v n (ZkU L))(hn:L.length=n):OwnA base w v L:=by subst hn;exact h
theorem Zl4(base:Option Addr)(n cap:Nat)(L:List Sf)(w:World)(hn:L.length=n)(h0:0<n)(h1:n<=100)(hL:RawA w base L):
 Calls prog 130 #[.slice base n cap] w fun e w'=>∃g' cap',e= .returned (.slice (some ⟨g',0,none⟩) n cap')/\OwnA w.heap.size w' (.slice (some ⟨g',0,none⟩) n cap') L/\Ext w w':=by
 obtain⟨x0,B3⟩:∃x,L[0]? =some x:=⟨_,YH (by omega)⟩;obtain⟨g,o,rfl,_,_⟩:=hL 0 x0 B3
 have hb:∀w,(binOp .eql 24 (.slice (some ⟨g,o,none⟩) n cap) (.slice none 0 0)).run prog w= .ok (.bool false) w:=fun w=>by
  simp[go_sem,binOp,run_equal_slice_nil w 24 51 _ n cap u24]
 have hX:∀(j:Nat) u,(ZkU L)[j]? =some u->(w.alloc (.cells #[] 51)).cell? ((⟨g,o,none⟩:Addr).add j)=some u:=by
  intro j u hu;exact((Ext.rfl' w).alloc _).cellS (ZkQ hL j u hu)
 clear B3 hL;go_enter func130,ntmps130
 go_wp2_with (
  at_builtin
  refine wpList_append_own _ rfl _ _ _ rfl w.heap.size 51 Tryz.t51 _ 7 64 u24 i51 t51z t51s t51b rfl (by omega) _ 0 [] rfl (ZkR ((Z3 _ _ _).trans (if_pos rfl)) (Nat.le_refl _)) ⟨g,o,none⟩ n cap (ZkU L) rfl (by rw[sfsV_len,hn]) hX (Zl3 L) (by simp[maxLen];omega) (by omega) (by simp) ?_;intro v' w3 Al Ae _;replace Al:w3.ownsRow w.heap.size 51 7 v' n (ZkU L):=by simpa using Al
  obtain⟨g',cp',rfl,Sa,Sc⟩:=World.ownsRow.form Al (by omega);have Bb:(w.alloc (.cells #[] 51)).grownBy w3 (some w.heap.size):=Ae;have Av:Ext w w3:=((Ext.rfl' w).alloc _).grown Bb (fun k hk=>by cases hk;exact Nat.le_refl _))
 go_ret;exact⟨g',cp',rfl,Zl6 Al hn,Av⟩
theorem ZkT{w:World}{g:Nat}{cur:Array Value}{t:TypeId}{L:List Sf}(hb:w.heap[g]? =some (.cells cur t))(h:RawA w (some ⟨g,0,none⟩) L){i k K:Nat}(hi:i<L.length)(hk:k<3)(hK:K=1+2*k)(p q:Int):
 RawA ((w.setCell ⟨g,i*7+K,none⟩ (.int .i64 p)).setCell ⟨g,i*7+K+1,none⟩ (.int .i64 q)) (some ⟨g,0,none⟩) (Zla L i k (p,q)):=by
 intro j x' hx';obtain⟨x,hx,rfl⟩:=Zlc hx';obtain⟨b,o,e,A4,sh,hn⟩:=h j x hx;obtain⟨rfl,rfl⟩:g=b/\0=o:=by simpa using e
 have Ao:=Zb (i:=i*7+K+1) (Zb (i:=i*7+K) hb (.int .i64 p)) (.int .i64 q);have Az:j*7+6<cur.size:=by
  have:=sh.k6;rw[Z0 hb] at this;have:=(YF.1 this).1;omega
 generalize (w.setCell ⟨g,i*7+K,none⟩ (.int .i64 p)).setCell ⟨g,i*7+K+1,none⟩ (.int .i64 q)=W at Ao⊢;have G:∀o v,w.cell? ⟨g,o,none⟩=some v->¬o=i*7+K->¬o=i*7+K+1->W.cell? ⟨g,o,none⟩=some v:=by
  intro o v ho h1 h2;rw[Z0 hb] at ho;rw[Z0 Ao,YO (fun h=>h2 h.symm),YO (fun h=>h1 h.symm),ho]
 have G1:j=i->W.cell? ⟨g,i*7+K,none⟩=some (.int .i64 p):=by
  rintro rfl;rw[Z0 Ao,YO (by omega),YM (by omega)]
 have G2:j=i->W.cell? ⟨g,i*7+K+1,none⟩=some (.int .i64 q):=by
  rintro rfl;rw[Z0 Ao,YM (by rw[Array.size_setIfInBounds];omega)]
 refine⟨g,0,rfl,Z5 Ao,?_,?_⟩
 ·by_cases Am:j=i
  ·subst Am;rw[if_pos rfl];have G1:=G1 rfl;have G2:=G2 rfl
   match k,hk with
   |0,_=>exact⟨G _ _ sh.k0 (by omega) (by omega),by simpa[Zl9,hK] using G1,by simpa[Zl9,hK] using G2,G _ _ sh.k3 (by omega) (by omega),G _ _ sh.k4 (by omega) (by omega),G _ _ sh.k5 (by omega) (by omega),G _ _ sh.k6 (by omega) (by omega)⟩
   |1,_=>exact⟨G _ _ sh.k0 (by omega) (by omega),G _ _ sh.k1 (by omega) (by omega),G _ _ sh.k2 (by omega) (by omega),by simpa[Zl9,hK] using G1,by simpa[Zl9,hK] using G2,G _ _ sh.k5 (by omega) (by omega),G _ _ sh.k6 (by omega) (by omega)⟩
   |2,_=>exact⟨G _ _ sh.k0 (by omega) (by omega),G _ _ sh.k1 (by omega) (by omega),G _ _ sh.k2 (by omega) (by omega),G _ _ sh.k3 (by omega) (by omega),G _ _ sh.k4 (by omega) (by omega),by simpa[Zl9,hK] using G1,by simpa[Zl9,hK] using G2⟩
  ·rw[if_neg Am];exact⟨G _ _ sh.k0 (by omega) (by omega),G _ _ sh.k1 (by omega) (by omega),G _ _ sh.k2 (by omega) (by omega),G _ _ sh.k3 (by omega) (by omega),G _ _ sh.k4 (by omega) (by omega),G _ _ sh.k5 (by omega) (by omega),G _ _ sh.k6 (by omega) (by omega)⟩
 ·split
  ·rw[Zle];exact hn
  ·exact hn
end Go.Proofs.Tryq
namespace Go.Proofs.Tryq
open Go Go.Nk Go.RowKit
set_option linter.all false
theorem OwnA.block{w:World}{base g n cap:Nat}{L:List Sf}(h:OwnA base w (.slice (some ⟨g,0,none⟩) n cap) L):∃cur,w.heap[g]? =some (.cells cur 51):=by
 rcases h.2 with⟨h1,_⟩|⟨g2,cap2,cur,e,_,hg,_⟩
 ·cases h1
 ·cases e;exact⟨cur,hg⟩
theorem ZkJ{w w':World}{g O:Nat}{S:List Sf}(h:RawA w (some ⟨g,O,none⟩) S)(e:w'.heap[g]? =w.heap[g]?):RawA w' (some ⟨g,O,none⟩) S:=by
 intro i s hs;obtain⟨b,off,e1,hb,sh,hz⟩:=h i s hs;obtain⟨rfl,rfl⟩:g=b/\O=off:=by simpa using e1
 have hc:∀o,w'.cell? ⟨g,o,none⟩=w.cell? ⟨g,o,none⟩:=fun o=>by simp only[World.cell?,e]
 have hb':g<w'.heap.size:=by
  rw[YN hb] at e;exact(YF.1 e).1
 exact⟨g,O,rfl,hb',⟨by rw[hc];exact sh.k0,by rw[hc];exact sh.k1,by rw[hc];exact sh.k2,by rw[hc];exact sh.k3,by rw[hc];exact sh.k4,by rw[hc];exact sh.k5,by rw[hc];exact sh.k6⟩,hz⟩
theorem Zld{w:World}{b o:Nat}{x:Sf}{k:Nat}(h:ShaftAt w b o x)(hk:k<3):w.cell? ⟨b,o+(1+2*k),none⟩=some (.int .i64 (spA x k).1)/\w.cell? ⟨b,o+(1+2*k)+1,none⟩=some (.int .i64 (spA x k).2):=by
 obtain rfl|rfl|rfl:k=0\/k=1\/k=2:=by omega
 ·exact⟨h.k1,h.k2⟩
 ·exact⟨h.k3,h.k4⟩
 ·exact⟨h.k5,h.k6⟩
end Go.Proofs.Tryq
namespace Go.Nk
open Go Go.Region Go.Proofs.Tryq
end Go.Nk
namespace Go.Proofs.Tryq
set_option maxRecDepth 100000
set_option maxHeartbeats 4000000
open Go Go.Nk Go.RowKit
set_option linter.all false
theorem ZlC(a b c m:Int)(base:Option Addr)(n cap:Nat)(L:List Sf)(w:World)(A3:L.length=n)(hn:n<=20)(hM:Meas w)(hS:RawA w base L)(h:Zp a b c m L=0):
 Calls prog 41 #[.agg #[.int .i64 a,.int .i64 b,.int .i64 c,.int .i64 m,.slice base n cap]] w fun e w'=>e= .returned (.int .i64 (Z66 a b c m L).length)/\Ext w w':=by
 have hf:=fun W (hW:Ext w W)=>ZbY a b c m base n cap L W A3 hn (hM.ext hW) (hS.ext hW)
 have ho:Zo a b c m L []=0:=by rw[Zhq];exact h
 simp only[ho] at hf;clear hS;go_enter func41,ntmps41
 go_wp2_with (
  go_at_call 37;refine(hf _ ((Ext.rfl' w).alloc _)).mono ?_;rintro e w2 ⟨v1,v2,rfl,hv,_,hE⟩
  obtain⟨ao,cp,rfl⟩:=hv.form)
 go_ret;exact⟨rfl,((Ext.rfl' w).alloc _).trans hE⟩
theorem ZlN{b:Nat}{w w':World}{v:Value}{S:List Sf}(h:OwnA b w v S)(e:∀k,v.ownBlock=some k->w'.heap[k]? =w.heap[k]?):OwnA b w' v S:=Z3d h e
end Go.Proofs.Tryq
namespace Go.Proofs.Tryq
open Go Go.Nk Go.RowKit
set_option linter.all false
theorem Zlg(w:World)(A B C:Obj):Ext w (((w.alloc A).alloc B).alloc C)/\(((w.alloc A).alloc B).alloc C).heap[w.heap.size]? =some A/\(((w.alloc A).alloc B).alloc C).heap[w.heap.size+1]? =some B/\(((w.alloc A).alloc B).alloc C).heap[w.heap.size+1+1]? =some C:=by
 refine⟨(((Ext.rfl' w).alloc A).alloc B).alloc C,?_,?_,?_⟩
 ·simp only[Z3,Z2];rw[if_neg (by omega),if_neg (by omega),if_pos trivial]
 ·simp only[Z3,Z2];rw[if_neg (by omega),if_pos trivial]
 ·simp only[Z3,Z2];rw[if_pos trivial]
end Go.Proofs.Tryq
