import Derived.Test.YtedkbdkbbnemlaaGreatDoorNkA
import Derived.Test.YtedkbdkbbnemlaaGreatDoorNk25
set_option linter.all false
namespace Go.Proofs.Tryq
open Go Go.Nk Go.RowKit
structure CardOk(r0 r1 r2 r3:Int)(S:List Rs):Prop where
 h0:0<=r0
 h1:r0<=r1/\r1<=999
 h2:0<=r2/\r2<=999
 h3:0<=r3/\r3<=999
 len:S.length<=8
 ok:∀s∈S,(0<=s.a/\s.a<=90)/\(0<=s.m/\s.m<=s.M/\s.M<=99999)/\(0<=s.wi/\s.wi<=9)/\(0<=s.li/\s.li<=9)
theorem Zav{r0 r1 r2 r3:Int}{S:List Rs}(h:ZC r0 r1 r2 r3 S=0):CardOk r0 r1 r2 r3 S:=by
 obtain⟨h1,h2,h3⟩:=Z0i h;have hr:(okN r0 999&&okN r1 999&&okN r2 999&&okN r3 999&&decide (r0<=r1))=true:=by
  unfold Z5y at h1;split at h1
  ·assumption
  ·cases h1
 simp only[okN,YG,decide_eq_true_eq] at hr;refine⟨hr.1.1.1.1.1,⟨hr.2,hr.1.1.1.2.2⟩,hr.1.1.2,hr.1.2,h2,fun s hs=> ?_⟩;have:=h3 s hs;simp only[okS,okN,YG,decide_eq_true_eq] at this;exact⟨this.1.1.1,this.1.1.2,this.1.2,this.2⟩
def Zcu(r0 r1 l c d:Int):Int:=if c<=d then l+r0*(d - c) else l - r1*(c - d)
def Zc1(r0 r1 h c d:Int):Int:=if c<=d then h+r1*(d - c) else h - r0*(c - d)
def Z5c(r2 r3:Int)(s:Rs):Int:=s.wi*r2+s.li*r3
def spV(r0 r1 r2 r3:Int)(s:Rs)(d:Int):Int×Int:=(Zcu r0 r1 (s.m - Z5c r2 r3 s) s.a d,Zc1 r0 r1 (s.M+Z5c r2 r3 s) s.a d)
def Zdx(r0 r1 r2 r3:Int)(s:Rs)(d:Int):Int×Int:=
 if s.a<=d then(wrap64 ((Z68 r2 r3 s).1+wrap64 (r0*wrap64 (d - s.a))),wrap64 ((Z68 r2 r3 s).2+wrap64 (r1*wrap64 (d - s.a))))
 else(wrap64 ((Z68 r2 r3 s).1 - wrap64 (r1*wrap64 (s.a - d))),wrap64 ((Z68 r2 r3 s).2 - wrap64 (r0*wrap64 (s.a - d))))
theorem Z6a(n:Int)(h: -9223372036854775808<=n/\n<=9223372036854775807):wrap64 n=n:=by unfold wrap64;omega
theorem Z1A{x y a b:Int}(h1:0<=x/\x<=a)(h2:0<=y/\y<=b):0<=x*y/\x*y<=a*b:=
 ⟨Int.mul_nonneg h1.1 h2.1,Int.mul_le_mul h1.2 h2.2 h2.1 (Int.le_trans h1.1 h1.2)⟩
section
variable {r0 r1 r2 r3:Int} {S:List Rs} (hc:CardOk r0 r1 r2 r3 S)
include hc
theorem Z7N{s:Rs}(hs:s∈S):0<=Z5c r2 r3 s/\Z5c r2 r3 s<=17982/\wrap64 (wrap64 (s.wi*r2)+wrap64 (s.li*r3))=Z5c r2 r3 s:=by
 obtain⟨_,_,h3,h4⟩:=hc.ok s hs;have a1:=Z1A h3 hc.h2;have a2:=Z1A h4 hc.h3;unfold Z5c;rw[Z6a (s.wi*r2) (by omega),Z6a (s.li*r3) (by omega),Z6a _ (by omega)];omega
theorem Zaw{s:Rs}(hs:s∈S):Z68 r2 r3 s=(s.m - Z5c r2 r3 s,s.M+Z5c r2 r3 s):=by
 obtain⟨h1,h2,h3⟩:=Z7N hc hs;have h4:=(hc.ok s hs).2.1;simp only[Z68,lo,hi,h3];rw[Z6a _ (by omega),Z6a _ (by omega)]
theorem Zax{s:Rs}(hs:s∈S){d:Int}(hd:0<=d/\d<=90):Zdx r0 r1 r2 r3 s d=spV r0 r1 r2 r3 s d:=by
 obtain⟨h1,h2,_⟩:=Z7N hc hs;obtain⟨h5,h4,_⟩:=hc.ok s hs;have e0:=hc.h0;have e1:=hc.h1;simp only[Zdx,spV,Zaw hc hs,Zcu,Zc1];by_cases Bc:s.a<=d
 ·rw[if_pos Bc,if_pos Bc,if_pos Bc];have a1:=Z1A (x:=r0) (y:=d - s.a) (a:=999) (b:=90) (by omega) (by omega);have a2:=Z1A (x:=r1) (y:=d - s.a) (a:=999) (b:=90) (by omega) (by omega);rw[Z6a (d - s.a) (by omega),Z6a (r0*(d - s.a)) (by omega),Z6a (r1*(d - s.a)) (by omega),Z6a _ (by omega),Z6a _ (by omega)]
 ·rw[if_neg Bc,if_neg Bc,if_neg Bc];have a1:=Z1A (x:=r0) (y:=s.a - d) (a:=999) (b:=90) (by omega) (by omega);have a2:=Z1A (x:=r1) (y:=s.a - d) (a:=999) (b:=90) (by omega) (by omega);rw[Z6a (s.a - d) (by omega),Z6a (r0*(s.a - d)) (by omega),Z6a (r1*(s.a - d)) (by omega),Z6a _ (by omega),Z6a _ (by omega)]
omit hc in
theorem Zay{l r:Int}(hl: -1000000<=l/\l<=1000000)(hr:0<=r/\r<=999):∀n:Nat,n<=90->upI l r n=l+r*n
 |0,_=>by simp[upI]
 |n+1,hn=>by
  have a1:=Z1A (x:=r) (y:=(n:Int)) (a:=999) (b:=90) hr (by omega);rw[upI,Zay hl hr n (by omega),Z6a _ (by omega)];push_cast;rw[Int.mul_add];omega
omit hc in
theorem Zaz{l r:Int}(hl: -1000000<=l/\l<=1000000)(hr:0<=r/\r<=999):∀n:Nat,n<=90->dnI l r n=l - r*n
 |0,_=>by simp[dnI]
 |n+1,hn=>by
  have a1:=Z1A (x:=r) (y:=(n:Int)) (a:=999) (b:=90) hr (by omega);rw[dnI,Zaz hl hr n (by omega),Z6a _ (by omega)];push_cast;rw[Int.mul_add];omega
theorem Zeq{i:Nat}{s:Rs}(hs:S[i]? =some s){d:Nat}(hd:d<=90):cvS r0 r1 r2 r3 (S.map Ze) i d=spV r0 r1 r2 r3 s d:=by
 have hm:=YQ hs;obtain⟨h1,h2,_⟩:=Z7N hc hm;obtain⟨h5,h4,_⟩:=hc.ok s hm;have e0:=hc.h0;have e1:=hc.h1;have hw:=Zaw hc hm;simp only[Z68,Prod.mk.injEq] at hw;have ht:((s.a.toNat:Nat):Int)=s.a:=Int.toNat_of_nonneg h5.1;rw[cvS,List.getElem?_map,hs];simp only[Option.map_some,shL,shH,Ze,hw.1,hw.2,atC,spV,Zcu,Zc1];by_cases Bc:s.a.toNat<=d
 ·rw[if_pos Bc,if_pos (by omega),if_pos (by omega),Zay (by omega) (by omega) _ (by omega),Zay (by omega) (by omega) _ (by omega)];rw[show((d - s.a.toNat:Nat):Int)=(d:Int) - s.a by omega]
 ·rw[if_neg Bc,if_neg (by omega),if_neg (by omega),Zaz (by omega) (by omega) _ (by omega),Zaz (by omega) (by omega) _ (by omega)];rw[show((s.a.toNat - d:Nat):Int)=s.a - (d:Int) by omega]
omit hc in
theorem Z7O{r0 r1 h c d e:Int}(h0:0<=r0)(h1:r0<=r1)(Rj:d<=e):r0*(e - d)<=Zc1 r0 r1 h c e - Zc1 r0 r1 h c d/\Zc1 r0 r1 h c e - Zc1 r0 r1 h c d<=r1*(e - d):=by
 unfold Zc1;have k1:=Int.mul_le_mul_of_nonneg_right h1 (show 0<=e - d by omega);by_cases a:c<=d
 ·rw[if_pos (by omega),if_pos a];rw[Int.mul_sub,Int.mul_sub] at k1;simp only[Int.mul_sub];omega
 ·by_cases b:c<=e
  ·have k2:=Int.mul_le_mul_of_nonneg_right h1 (show 0<=e - c by omega);have k3:=Int.mul_le_mul_of_nonneg_right h1 (show 0<=c - d by omega);rw[if_pos b,if_neg a];simp only[Int.mul_sub] at k1 k2 k3⊢;omega
  ·rw[if_neg b,if_neg a];simp only[Int.mul_sub] at k1⊢;omega
theorem Zcv(s t:Rs)(d:Int):(spV r0 r1 r2 r3 s d).1 - (spV r0 r1 r2 r3 t d).2<=(spV r0 r1 r2 r3 s s.a).1 - (spV r0 r1 r2 r3 t s.a).2:=by
 simp only[spV];have e0:=hc.h0;have e1:=hc.h1.1;rcases Int.le_total s.a d with h|h
 ·have a1:=(Z7O (h:=t.M+Z5c r2 r3 t) (c:=t.a) e0 e1 h).1;have a2:Zcu r0 r1 (s.m - Z5c r2 r3 s) s.a d=s.m - Z5c r2 r3 s+r0*(d - s.a):=if_pos h;have a3:Zcu r0 r1 (s.m - Z5c r2 r3 s) s.a s.a=s.m - Z5c r2 r3 s+r0*(s.a - s.a):=if_pos (Int.le_refl _);rw[Int.sub_self,Int.mul_zero] at a3;omega
 ·have a1:=(Z7O (h:=t.M+Z5c r2 r3 t) (c:=t.a) e0 e1 h).2;have a3:Zcu r0 r1 (s.m - Z5c r2 r3 s) s.a s.a=s.m - Z5c r2 r3 s+r0*(s.a - s.a):=if_pos (Int.le_refl _);rw[Int.sub_self,Int.mul_zero] at a3;by_cases hd:s.a<=d
  ·have:s.a=d:=by omega
   subst this;omega
  ·have a2:Zcu r0 r1 (s.m - Z5c r2 r3 s) s.a d=s.m - Z5c r2 r3 s - r1*(s.a - d):=if_neg hd;omega
theorem Zdy{s:Rs}(hs:s∈S){d:Int}(hd:0<=d/\d<=90): -1000000<=(spV r0 r1 r2 r3 s d).1/\(spV r0 r1 r2 r3 s d).1<=(spV r0 r1 r2 r3 s d).2/\(spV r0 r1 r2 r3 s d).2<=1000000:=by
 obtain⟨h1,h2,_⟩:=Z7N hc hs;obtain⟨h5,h4,_⟩:=hc.ok s hs;have e0:=hc.h0;have e1:=hc.h1;simp only[spV,Zcu,Zc1];by_cases Bc:s.a<=d
 ·have a1:=Z1A (x:=r0) (y:=d - s.a) (a:=999) (b:=90) (by omega) (by omega);have a2:=Z1A (x:=r1) (y:=d - s.a) (a:=999) (b:=90) (by omega) (by omega);have a3:=Int.mul_le_mul_of_nonneg_right e1.1 (show 0<=d - s.a by omega);rw[if_pos Bc,if_pos Bc];omega
 ·have a1:=Z1A (x:=r0) (y:=s.a - d) (a:=999) (b:=90) (by omega) (by omega);have a2:=Z1A (x:=r1) (y:=s.a - d) (a:=999) (b:=90) (by omega) (by omega);have a3:=Int.mul_le_mul_of_nonneg_right e1.1 (show 0<=s.a - d by omega);rw[if_neg Bc,if_neg Bc];omega
end
theorem has_all:(List.range 256).all (fun k=>(List.range 8).all fun i=>has (k:Int) i==k.testBit i)=true:=by kernel_rfl
theorem Z3Q{k i:Nat}(hk:k<256)(hi:i<8):has (k:Int) i=k.testBit i:=by
 have:=YL.1 (YL.1 has_all k (YU.2 hk)) i (YU.2 hi);simpa using this
theorem Zcw(C:Nat->Nat->Int×Int)(set:Int)(d:Nat)(x:Int):∀n,(atF C set d n).1<=x↔-1099511627776<=x/\∀i,i<n->has set i=true->(C i d).1<=x
 |0=>by simp[atF]
 |n+1=>by
  have ih:=Zcw C set d x n;rw[atF];by_cases h:has set n=true
  ·rw[if_pos h];simp only[Int.max_le,ih];constructor
   ·rintro⟨⟨h1,h2⟩,h3⟩;refine⟨h1,fun i hi hh=> ?_⟩;by_cases e:i=n
    ·subst e;exact h3
    ·exact h2 i (by omega) hh
   ·rintro⟨h1,h2⟩;exact⟨⟨h1,fun i hi=>h2 i (by omega)⟩,h2 n (by omega) h⟩
  ·rw[if_neg h,ih];constructor
   ·rintro⟨h1,h2⟩;refine⟨h1,fun i hi hh=> ?_⟩;by_cases e:i=n
    ·subst e;exact absurd hh h
    ·exact h2 i (by omega) hh
   ·rintro⟨h1,h2⟩;exact⟨h1,fun i hi=>h2 i (by omega)⟩
theorem Zcx(C:Nat->Nat->Int×Int)(set:Int)(d:Nat)(x:Int):∀n,x<=(atF C set d n).2↔x<=1099511627776/\∀i,i<n->has set i=true->x<=(C i d).2
 |0=>by simp[atF]
 |n+1=>by
  have ih:=Zcx C set d x n;rw[atF];by_cases h:has set n=true
  ·rw[if_pos h];simp only[Int.le_min,ih];constructor
   ·rintro⟨⟨h1,h2⟩,h3⟩;refine⟨h1,fun i hi hh=> ?_⟩;by_cases e:i=n
    ·subst e;exact h3
    ·exact h2 i (by omega) hh
   ·rintro⟨h1,h2⟩;exact⟨⟨h1,fun i hi=>h2 i (by omega)⟩,h2 n (by omega) h⟩
  ·rw[if_neg h,ih];constructor
   ·rintro⟨h1,h2⟩;refine⟨h1,fun i hi hh=> ?_⟩;by_cases e:i=n
    ·subst e;exact absurd hh h
    ·exact h2 i (by omega) hh
   ·rintro⟨h1,h2⟩;exact⟨h1,fun i hi=>h2 i (by omega)⟩
def ZaA(x y:Int×Int):Int×Int:=(max x.1 y.1,min x.2 y.2)
def Z6b(r0 r1 r2 r3:Int)(S:List Rs)(d:Int)(i:Int):Int×Int:=match S[i.toNat]? with
 |some s=>Zdx r0 r1 r2 r3 s d
 |none=>(0,0)
def Z57(r0 r1 r2 r3:Int)(S:List Rs)(d:Int):List Int->Int×Int
 |[]=>(0,0)
 |i::t=>t.foldl (fun x j=>ZaA x (Z6b r0 r1 r2 r3 S d j)) (Z6b r0 r1 r2 r3 S d i)
theorem ZaB(f:Int->Int×Int)(x:Int):∀(t:List Int)(y:Int×Int),(t.foldl (fun x j=>ZaA x (f j)) y).1<=x↔y.1<=x/\∀j∈t,(f j).1<=x
 |[],y=>by simp
 |j::t,y=>by
  rw[List.foldl_cons,ZaB f x t];simp only[ZaA,Int.max_le,YD,and_assoc]
theorem ZaC(f:Int->Int×Int)(x:Int):∀(t:List Int)(y:Int×Int),x<=(t.foldl (fun x j=>ZaA x (f j)) y).2↔x<=y.2/\∀j∈t,x<=(f j).2
 |[],y=>by simp
 |j::t,y=>by
  rw[List.foldl_cons,ZaC f x t];simp only[ZaA,Int.le_min,YD,and_assoc]
theorem ZaD{r0 r1 r2 r3:Int}{S:List Rs}{d x:Int}{l:List Int}(hl:l≠[]):(Z57 r0 r1 r2 r3 S d l).1<=x↔∀j∈l,(Z6b r0 r1 r2 r3 S d j).1<=x:=by
 cases l with
 |nil=>exact absurd rfl hl
 |cons i t=>rw[Z57,ZaB,YD]
theorem Z6V{r0 r1 r2 r3:Int}{S:List Rs}{d x:Int}{l:List Int}(hl:l≠[]):x<=(Z57 r0 r1 r2 r3 S d l).2↔∀j∈l,x<=(Z6b r0 r1 r2 r3 S d j).2:=by
 cases l with
 |nil=>exact absurd rfl hl
 |cons i t=>rw[Z57,ZaC,YD]
theorem Zc2{a b:Int}(h:∀x,a<=x↔b<=x):a=b:=Int.le_antisymm ((h b).2 (Int.le_refl _)) ((h a).1 (Int.le_refl _))
theorem Zc3{a b:Int}(h:∀x,x<=a↔x<=b):a=b:=Int.le_antisymm ((h a).1 (Int.le_refl _)) ((h b).2 (Int.le_refl _))
def ZN(k:Nat):List Int:=(bl k).map fun(i:Nat)=>(i:Int)
theorem Zc4{k:Nat}{p:Int}:p∈ZN k↔∃i:Nat,i<8/\k.testBit i=true/\p=i:=by
 simp only[ZN,bl,List.mem_map,List.mem_filter,YU];constructor
 ·rintro⟨i,⟨h1,h2⟩,rfl⟩;exact⟨i,h1,h2,rfl⟩
 ·rintro⟨i,h1,h2,rfl⟩;exact⟨i,⟨h1,h2⟩,rfl⟩
section
variable {r0 r1 r2 r3:Int} {S:List Rs} (hc:CardOk r0 r1 r2 r3 S)
include hc
omit hc in
theorem Z4l{k n i:Nat}(hk:k<2 ^ n)(h:k.testBit i=true):i<n:=by
 rcases Nat.lt_or_ge i n with h1|h1
 ·exact h1
 ·have:=Nat.testBit_lt_two_pow (YS hk (Nat.pow_le_pow_right (by omega) h1));rw[this] at h;cases h
theorem ZaE{k:Nat}(hk:k<2 ^ S.length)(h0:ZN k≠[]){d:Nat}(hd:d<=90):atF (cvS r0 r1 r2 r3 (S.map Ze)) k d S.length=Z57 r0 r1 r2 r3 S d (ZN k):=by
 have B0:k<256:=YS hk (by have:=Nat.pow_le_pow_right (n:=2) (by omega) hc.len;exact this);have key:∀i,i<S.length->k.testBit i=true->∃s,S[i]? =some s/\s∈S/\cvS r0 r1 r2 r3 (S.map Ze) i d=spV r0 r1 r2 r3 s d/\Z6b r0 r1 r2 r3 S d i=spV r0 r1 r2 r3 s d:=by
  intro i hi hb;obtain⟨s,hs⟩:∃s,S[i]? =some s:=⟨_,YH hi⟩;refine⟨s,hs,YQ hs,Zeq hc hs hd,?_⟩;simp only[Z6b,Int.toNat_natCast,hs];exact Zax hc (YQ hs) (by omega)
 have A3:=hc.len;obtain⟨p0,Bz⟩:∃p,p∈ZN k:=List.exists_mem_of_ne_nil _ h0;obtain⟨i0,_,Cd,rfl⟩:=Zc4.1 Bz;obtain⟨s0,_,V4,he0,_⟩:=key i0 (Z4l hk Cd) Cd;have Aw:=Zdy hc V4 (d:=d) (by omega);refine Prod.ext (Zc2 fun x=> ?_) (Zc3 fun x=> ?_)
 ·rw[Zcw,ZaD h0];constructor
  ·rintro⟨_,h⟩ j hj;obtain⟨i,hi8,hi,rfl⟩:=Zc4.1 hj;have A4:=Z4l hk hi;obtain⟨s,_,_,e1,e2⟩:=key i A4 hi;rw[e2,<-e1];exact h i A4 (by rw[Z3Q B0 (by omega)];exact hi)
  ·intro h;constructor
   ·have:=h _ Bz;obtain⟨s,_,hs,_,e2⟩:=key i0 (Z4l hk Cd) Cd;rw[e2] at this;have:=Zdy hc hs (d:=d) (by omega);omega
   ·intro i hi hh;rw[Z3Q B0 (by omega)] at hh;obtain⟨s,_,_,e1,e2⟩:=key i hi hh;rw[e1,<-e2];exact h i (Zc4.2 ⟨i,by omega,hh,rfl⟩)
 ·rw[Zcx,Z6V h0];constructor
  ·rintro⟨_,h⟩ j hj;obtain⟨i,hi8,hi,rfl⟩:=Zc4.1 hj;have A4:=Z4l hk hi;obtain⟨s,_,_,e1,e2⟩:=key i A4 hi;rw[e2,<-e1];exact h i A4 (by rw[Z3Q B0 (by omega)];exact hi)
  ·intro h;constructor
   ·have:=h _ Bz;obtain⟨s,_,hs,_,e2⟩:=key i0 (Z4l hk Cd) Cd;rw[e2] at this;have:=Zdy hc hs (d:=d) (by omega);omega
   ·intro i hi hh;rw[Z3Q B0 (by omega)] at hh;obtain⟨s,_,_,e1,e2⟩:=key i hi hh;rw[e1,<-e2];exact h i (Zc4.2 ⟨i,by omega,hh,rfl⟩)
def Z20(r0 r1 r2 r3:Int)(S:List Rs)(l:List Int):Bool:=l.all fun i=>match S[i.toNat]? with
 |some s=>decide ((Z57 r0 r1 r2 r3 S s.a l).1<=(Z57 r0 r1 r2 r3 S s.a l).2)
 |none=>false
def Z6W(r0 r1 r2 r3:Int)(s t:Rs):Prop:=(spV r0 r1 r2 r3 s s.a).1<=(spV r0 r1 r2 r3 t s.a).2
theorem Z58{l:List Int}(hl:∀p∈l,0<=p/\p<S.length)(h0:l≠[]){d:Int}(hd:0<=d/\d<=90):(Z57 r0 r1 r2 r3 S d l).1<=(Z57 r0 r1 r2 r3 S d l).2↔∀i∈l,∀j∈l,∀s t,S[i.toNat]? =some s->S[j.toNat]? =some t->(spV r0 r1 r2 r3 s d).1<=(spV r0 r1 r2 r3 t d).2:=by
 have key:∀i s,S[i.toNat]? =some s->Z6b r0 r1 r2 r3 S d i=spV r0 r1 r2 r3 s d:=by
  intro i s hs;simp only[Z6b,hs];exact Zax hc (YQ hs) hd
 rw[ZaD h0];constructor
 ·intro h i hi j hj s t hs ht;have:=h i hi;rw[Z6V h0] at this;have:=this j hj;rw[key i s hs,key j t ht] at this;exact this
 ·intro h i hi;rw[Z6V h0];intro j hj;have D9:=hl i hi;have G8:=hl j hj;obtain⟨s,hs⟩:∃s,S[i.toNat]? =some s:=⟨_,YH (by omega)⟩;obtain⟨t,ht⟩:∃s,S[j.toNat]? =some s:=⟨_,YH (by omega)⟩;rw[key i s hs,key j t ht];exact h i hi j hj s t hs ht
theorem Z8D{l:List Int}(hl:∀p∈l,0<=p/\p<S.length):Z20 r0 r1 r2 r3 S l=true↔∀i∈l,∀j∈l,∀s t,S[i.toNat]? =some s->S[j.toNat]? =some t->Z6W r0 r1 r2 r3 s t:=by
 unfold Z20 Z6W;rw[YL];constructor
 ·intro h i hi j hj s t hs ht;have h1:=h i hi;rw[hs] at h1;simp only[decide_eq_true_eq] at h1;rw[Z58 hc hl (List.ne_nil_of_mem hi) ((hc.ok s (YQ hs)).1)] at h1;exact h1 i hi j hj s t hs ht
 ·intro h i hi;have D9:=hl i hi;obtain⟨s,hs⟩:∃s,S[i.toNat]? =some s:=⟨_,YH (by omega)⟩;rw[hs];simp only[decide_eq_true_eq];rw[Z58 hc hl (List.ne_nil_of_mem hi) ((hc.ok s (YQ hs)).1)];intro i' hi' j hj s' t hs' ht;have h1:=h i' hi' j hj s' t hs' ht;have h2:=Zcv hc s' t s.a;omega
theorem Z6X{k:Nat}(hk:k<2 ^ S.length):Zz (cvS r0 r1 r2 r3 (S.map Ze)) k S.length=Z20 r0 r1 r2 r3 S (ZN k):=by
 have A3:=hc.len;have hl:∀p∈ZN k,0<=p/\p<S.length:=by
  intro p hp;obtain⟨i,_,hi,rfl⟩:=Zc4.1 hp;have:=Z4l hk hi;omega
 by_cases h0:ZN k=[]
 ·rw[h0];have hz:∀i,i<8->k.testBit i=false:=by
   intro i hi;cases hb:k.testBit i with
   |false=>rfl
   |true=>
    have:(i:Int)∈ZN k:=Zc4.2 ⟨i,hi,hb,rfl⟩;rw[h0] at this;cases this
  have B0:k<256:=YS hk (by have:=Nat.pow_le_pow_right (n:=2) (by omega) hc.len;exact this);have hat:∀d n,n<=8->atF (cvS r0 r1 r2 r3 (S.map Ze)) k d n=(-1099511627776,1099511627776):=by
   intro d n
   induction n with
   |zero=>intro _;rfl
   |succ n ih=>
    intro hn;rw[atF,Z3Q B0 (by omega),hz n (by omega),if_neg (by decide),ih (by omega)]
  rw[Zz,Z22,show Z20 r0 r1 r2 r3 S []=true from rfl,YL];intro d _;rw[hat d _ A3];decide
 ·rw[Bool.eq_iff_iff,Z8D hc hl,Zz,Z22,YL];constructor
  ·intro h i hi j hj s t hs ht;have hsa:=(hc.ok s (YQ hs)).1;have h1:=h s.a.toNat (YU.2 (by omega));simp only[decide_eq_true_eq] at h1;rw[ZaE hc hk h0 (by omega),Int.toNat_of_nonneg hsa.1,Z58 hc hl h0 hsa] at h1;exact h1 i hi j hj s t hs ht
  ·intro h d hd;have E8:=YU.1 hd;simp only[decide_eq_true_eq];rw[ZaE hc hk h0 (by omega),Z58 hc hl h0 (by omega)];intro i hi j hj s t hs ht;have h1:=h i hi j hj s t hs ht;unfold Z6W at h1;have h2:=Zcv hc s t d;omega
end
def LB(a b:Nat):Prop:=∃x,x<8/\a.testBit x=true/\b.testBit x=false/\∀j,j<x->a.testBit j=b.testBit j
theorem LB.trans{a b c:Nat}:LB a b->LB b c->LB a c:=by
 rintro⟨x,hx,h1,h2,h3⟩ ⟨y,hy,k1,k2,k3⟩;rcases Nat.lt_trichotomy x y with h|h|h
 ·exact⟨x,hx,h1,by rw[<-k3 x h];exact h2,fun j hj=>(h3 j hj).trans (k3 j (by omega))⟩
 ·subst h;rw[h2] at k1;cases k1
 ·exact⟨y,hy,by rw[h3 y h];exact k1,k2,fun j hj=>(h3 j (by omega)).trans (k3 j hj)⟩
theorem LB.irrefl{a:Nat}(h:LB a a):False:=by
 obtain⟨x,_,h1,h2,_⟩:=h;rw[h1] at h2;cases h2
theorem low_all:(List.range 256).all (fun x=>x==0||(decide (tz x<8)&&bits .and .i64 (x:Int) (wrap64 (-(x:Int)))==((2 ^ tz x:Nat):Int)&&x.testBit (tz x)&&(List.range (tz x)).all fun j=> !x.testBit j))=true:=by kernel_rfl
theorem and_all:(List.range 256).all (fun a=>(List.range 8).all fun i=>(bits .and .i64 (a:Int) ((2 ^ i:Nat):Int) !=0)==a.testBit i)=true:=by kernel_rfl
theorem ZaF{a b:Nat}(ha:a<256)(hb:b<256):bits .xor .i64 (a:Int) (b:Int)=((a ^^^ b:Nat):Int):=by
 have hx:a ^^^ b<2 ^ 8:=Nat.xor_lt_two_pow (by omega) (by omega);have h1:(BitVec.ofInt 64 (a:Int)).toNat=a:=by
  rw[BitVec.ofInt_natCast,BitVec.toNat_ofNat];exact Nat.mod_eq_of_lt (by omega)
 have h2:(BitVec.ofInt 64 (b:Int)).toNat=b:=by
  rw[BitVec.ofInt_natCast,BitVec.toNat_ofNat];exact Nat.mod_eq_of_lt (by omega)
 show IntKind.i64.wrap ((BitVec.ofInt 64 (a:Int) ^^^ BitVec.ofInt 64 (b:Int)).toNat:Int)=_;rw[BitVec.toNat_xor,h1,h2,IntKind.wrap_i64];omega
theorem Z4m{a b:Nat}(ha:a<256)(hb:b<256)(A9:a≠b):∃i,i<8/\a.testBit i≠b.testBit i/\(∀j,j<i->a.testBit j=b.testBit j)/\Z1g a b=a.testBit i:=by
 have hx:a ^^^ b<2 ^ 8:=Nat.xor_lt_two_pow (by omega) (by omega);have h0:a ^^^ b≠0:=fun h=>A9 (Nat.eq_of_testBit_eq fun i=>by have h9:=congrArg (fun x=>x.testBit i) h;simp[Nat.testBit_xor] at h9;exact h9)
 have h1:=YL.1 low_all _ (YU.2 hx);simp only[Bool.or_eq_true,YG,beq_iff_eq,decide_eq_true_eq,h0,false_or,YL,YU] at h1;obtain⟨⟨⟨h2,h3⟩,h4⟩,h5⟩:=h1;have h6:=YL.1 (YL.1 and_all a (YU.2 ha)) _ (YU.2 h2);rw[beq_iff_eq] at h6;refine⟨tz (a ^^^ b),h2,?_,?_,?_⟩
 ·rw[Nat.testBit_xor] at h4;intro e;rw[e] at h4;simp at h4
 ·intro j hj;have:=h5 j hj;rw[Nat.testBit_xor] at this;cases h:a.testBit j<;>cases h':b.testBit j<;>simp[h,h'] at this⊢
 ·unfold Z1g;rw[ZaF ha hb,h3,h6];have:((((a ^^^ b:Nat):Int)) !=0)=true:=by simp[h0]
  rw[this,Bool.true_and]
theorem Z4n{a b:Nat}(ha:a<256)(hb:b<256):Z1g a b=true↔LB a b:=by
 by_cases A9:a=b
 ·subst A9;constructor
  ·intro h;unfold Z1g at h;rw[ZaF ha ha] at h;simp at h
  ·exact fun h=>h.irrefl.elim
 ·obtain⟨i,h1,h2,h3,h4⟩:=Z4m ha hb A9;rw[h4];constructor
  ·intro h;refine⟨i,h1,h,?_,h3⟩;cases hb:b.testBit i with
   |false=>rfl
   |true=>rw[h,hb] at h2;exact absurd rfl h2
  ·rintro⟨x,hx,k1,k2,k3⟩;rcases Nat.lt_trichotomy x i with h|h|h
   ·rw[h3 x h,k2] at k1;cases k1
   ·subst h;exact k1
   ·exact absurd (k3 i h) h2
theorem LB.total{a b:Nat}(ha:a<256)(hb:b<256)(A9:a≠b):LB a b\/LB b a:=by
 obtain⟨i,h1,h2,h3,_⟩:=Z4m ha hb A9;cases h:a.testBit i with
 |true=>exact .inl ⟨i,h1,h,by cases hb:b.testBit i with|false=>rfl|true=>rw[h,hb] at h2;exact absurd rfl h2,h3⟩
 |false=>exact .inr ⟨i,h1,by cases hb:b.testBit i with|true=>rfl|false=>rw[h,hb] at h2;exact absurd rfl h2,h,fun j hj=>(h3 j hj).symm⟩
def Lx:List Int->List Int->Prop
 |_,[]=>False
 |[],_::_=>True
 |x::t,y::u=>x<y\/(x=y/\Lx t u)
theorem chooseR_lx:∀(s:List Int),s.Pairwise (·<·)->(chooseR s).Pairwise Lx
 |[],_=>by simp[chooseR]
 |x::t,hs=>by
  have ih:=chooseR_lx t (List.Pairwise.of_cons hs);have Ms:∀c∈(chooseR t).tail,∃y u,c=y::u/\y∈t:=by
   intro c hc;have A9:=chooseR_ne t c hc;have E5:=chooseR_mem t c (List.mem_of_mem_tail hc);cases c with
   |nil=>exact absurd rfl A9
   |cons y c=>exact⟨y,c,rfl,E5.subset YY⟩
  rw[chooseR,List.pairwise_cons];constructor
  ·intro c hc;rcases List.mem_append.1 hc with h|h
   ·obtain⟨y,_,rfl⟩:=List.mem_map.1 h;trivial
   ·obtain⟨y,u,rfl,_⟩:=Ms c h;trivial
  ·rw[List.pairwise_append];refine⟨?_,?_,?_⟩
   ·rw[List.pairwise_map];exact ih.imp fun h=> .inr ⟨rfl,h⟩
   ·rw[chooseR_head t] at ih;exact List.Pairwise.of_cons ih
   ·intro a ha b hb;obtain⟨y,_,rfl⟩:=List.mem_map.1 ha;obtain⟨z,u,rfl,hz⟩:=Ms b hb;exact .inl (List.rel_of_pairwise_cons hs hz)
theorem lx_first:∀{la lb:List Int},la.Pairwise (·<·)->lb.Pairwise (·<·)->Lx la lb->la.length=lb.length->∃x,x∈la/\x∉lb/\∀j,j<x->(j∈la↔j∈lb)
 |la,[],_,_,h,_=>by cases la<;>exact h.elim
 |[],_::_,_,_,_,h=>by simp at h
 |x::t,y::u,ha,hb,h,hl=>by
  rcases h with h|⟨rfl,h⟩
  ·have hyu:∀q∈y::u,y<=q:=by
    intro q hq;rcases List.mem_cons.1 hq with rfl|hq
    ·exact Int.le_refl _
    ·exact Int.le_of_lt (List.rel_of_pairwise_cons hb hq)
   refine⟨x,YY,fun hx=>by have:=hyu x hx;omega,fun j hj=>⟨fun hm=> ?_,fun hm=> ?_⟩⟩
   ·rcases List.mem_cons.1 hm with rfl|hm
    ·omega
    ·have:=List.rel_of_pairwise_cons ha hm;omega
   ·have:=hyu j hm;omega
  ·obtain⟨z,h1,h2,h3⟩:=lx_first (List.Pairwise.of_cons ha) (List.Pairwise.of_cons hb) h (by simpa using hl);have hz:=List.rel_of_pairwise_cons ha h1;refine⟨z,YW _ h1,fun hm=> ?_,fun j hj=> ?_⟩
   ·rcases List.mem_cons.1 hm with rfl|hm
    ·omega
    ·exact h2 hm
   ·rw[List.mem_cons,List.mem_cons,h3 j hj]
def upL(n:Nat):List Int:=(List.range n).map fun(i:Nat)=>(i:Int)
def Zer(l:List Int):Nat:=l.foldl (fun m i=>m+2 ^ i.toNat) 0
theorem choose_all:(List.range 9).all (fun n=>(chooseR (upL n)).all fun l=>decide (Zer l<2 ^ n)&&ZN (Zer l)==l)=true:=by kernel_rfl
theorem set_all:(List.range 9).all (fun n=>(List.range (2 ^ n)).all fun k=>(ZN k).isSublist (upL n))=true:=by kernel_rfl
theorem Z8E{n:Nat}(hn:n<=8){l:List Int}(h:l∈chooseR (upL n)):∃k,k<2 ^ n/\l=ZN k:=by
 have:=YL.1 (YL.1 choose_all n (YU.2 (by omega))) l h;simp only[YG,decide_eq_true_eq,beq_iff_eq] at this;exact⟨_,this.1,this.2.symm⟩
theorem Z4o{n k:Nat}(hn:n<=8)(hk:k<2 ^ n):ZN k∈chooseR (upL n):=by
 have:=YL.1 (YL.1 set_all n (YU.2 (by omega))) k (YU.2 hk);exact mem_chooseR _ _ (List.isSublist_iff_sublist.1 this)
theorem Z7P(k:Nat):(ZN k).Pairwise (·<·):=by
 rw[ZN,List.pairwise_map,bl];exact(List.Pairwise.filter _ List.pairwise_lt_range).imp fun h=>by omega
theorem lx_LB{a b:Nat}(h:Lx (ZN a) (ZN b))(hl:(ZN a).length=(ZN b).length):LB a b:=by
 obtain⟨x,h1,h2,h3⟩:=lx_first (Z7P a) (Z7P b) h hl;obtain⟨i,hi,hb,rfl⟩:=Zc4.1 h1;refine⟨i,hi,hb,?_,fun j hj=> ?_⟩
 ·cases Ru:b.testBit i with
  |false=>rfl
  |true=>exact absurd (Zc4.2 ⟨i,hi,Ru,rfl⟩) h2
 ·have h4:=h3 (j:Int) (by omega);have h5:∀c:Nat,(j:Int)∈ZN c↔c.testBit j=true:=by
   intro c;rw[Zc4];constructor
   ·rintro⟨i',_,h,e⟩;have:i'=j:=(by omega);subst this;exact h
   ·exact fun h=>⟨j,by omega,h,rfl⟩
  rw[h5,h5] at h4;exact Bool.eq_iff_iff.2 h4
structure Bt(bt:Int->Int->Bool):Prop where
 asym:∀a b,bt a b=true->bt b a=true->False
 trans:∀a b c,bt a b=true->bt b c=true->bt a c=true
 total:∀a b,a≠b->bt a b=true\/bt b a=true
theorem bt_lt:Bt fun a b=>decide (a<b):=⟨fun a b h h'=>by simp at h h';omega,fun a b c h h'=>by simp at h h'⊢;omega,fun a b h=>by simp;omega⟩
theorem bt_gt:Bt fun a b=>decide (b<a):=⟨fun a b h h'=>by simp at h h';omega,fun a b c h h'=>by simp at h h'⊢;omega,fun a b h=>by simp;omega⟩
def BetS(bt:Int->Int->Bool)(a b:Nat):Prop:=bt (bl a).length (bl b).length=true\/((bl a).length=(bl b).length/\LB a b)
theorem BetS.trans{bt:Int->Int->Bool}(hb:Bt bt){a b c:Nat}:BetS bt a b->BetS bt b c->BetS bt a c:=by
 rintro(h|⟨h,h'⟩) (k|⟨k,k'⟩)
 ·exact .inl (hb.trans _ _ _ h k)
 ·exact .inl (by rw[<-k];exact h)
 ·exact .inl (by rw[h];exact k)
 ·exact .inr ⟨h.trans k,h'.trans k'⟩
theorem Z4p{f:Nat->Bool}{bt:Int->Int->Bool}(hb:Bt bt):∀n,n<=256->((Zm f bt n).2=false->(Zm f bt n).1=0/\∀k,k<n->f k=false)/\((Zm f bt n).2=true->f (Zm f bt n).1=true/\(Zm f bt n).1<n/\∀k,k<n->f k=true->k=(Zm f bt n).1\/BetS bt (Zm f bt n).1 k)
 |0,_=>by simp[Zm]
 |n+1,hn=>by
  obtain⟨ih1,ih2⟩:=Z4p (f:=f) hb n (by omega);have A4:=Z56 f bt n (by omega);rw[Zm];cases hf:f n with
  |false=>
   rw[Bool.false_and,if_neg (by decide)];refine⟨fun h=>⟨(ih1 h).1,fun k hk=> ?_⟩,fun h=>⟨(ih2 h).1,by have:=(ih2 h).2.1;omega,fun k hk Le=> ?_⟩⟩
   ·by_cases e:k=n
    ·subst e;exact hf
    ·exact(ih1 h).2 k (by omega)
   ·by_cases e:k=n
    ·subst e;rw[hf] at Le;cases Le
    ·exact(ih2 h).2.2 k (by omega) Le
  |true=>
   rw[Bool.true_and];by_cases hc:(!(Zm f bt n).2||bt (bl n).length (bl (Zm f bt n).1).length||((bl n).length==(bl (Zm f bt n).1).length&&Z1g n (Zm f bt n).1))=true
   ·rw[if_pos hc];refine⟨fun h=>(by cases h),fun _=>⟨hf,by omega,fun k hk Le=> ?_⟩⟩;by_cases e:k=n
    ·exact .inl e
    ·right
     show BetS bt n k;cases Kb:(Zm f bt n).2 with
     |false=>rw[(ih1 Kb).2 k (by omega)] at Le;cases Le
     |true=>
      rw[Kb] at hc;simp only[Bool.not_true,Bool.false_or,Bool.or_eq_true,YG,beq_iff_eq] at hc;have h1:BetS bt n (Zm f bt n).1:=by
       rcases hc with hc|⟨hc,hl⟩
       ·exact .inl hc
       ·exact .inr ⟨hc,(Z4n (by omega) A4).1 hl⟩
      rcases(ih2 Kb).2.2 k (by omega) Le with rfl|h2
      ·exact h1
      ·exact h1.trans hb h2
   ·rw[if_neg hc];cases Kb:(Zm f bt n).2 with
    |false=>rw[Kb] at hc;simp at hc
    |true=>
     rw[Kb] at hc;simp only[Bool.not_true,Bool.false_or,Bool.or_eq_true,YG,beq_iff_eq,not_or,not_and] at hc;refine⟨fun h=>(by cases h),fun _=>⟨(ih2 Kb).1,by have:=(ih2 Kb).2.1;omega,fun k hk Le=> ?_⟩⟩;by_cases e:k=n
     ·subst e;right;by_cases hl:(bl k).length=(bl (Zm f bt k).1).length
      ·have Kf:=hc.2 hl;rw[Z4n (by omega) A4] at Kf;have A9:k≠(Zm f bt k).1:=(by have:=(ih2 Kb).2.1;omega);exact .inr ⟨hl.symm,(LB.total (by omega) A4 A9).resolve_left Kf⟩
      ·exact .inl ((hb.total _ _ (fun h=>hl (by omega))).resolve_left hc.1)
     ·exact(ih2 Kb).2.2 k (by omega) Le
def ZaG(f:List Int->Bool)(bt:Int->Int->Bool)(b:List Int×Bool)(cs:List (List Int)):List Int×Bool:=cs.foldl (fun b l=>if(!b.2||bt l.length b.1.length)&&f l then(l,true) else b) b
def Zdz(f:List Int->Bool)(bt:Int->Int->Bool)(cs:List (List Int))(b:List Int×Bool):Prop:=
 (b.2=false->b.1=[]/\∀l∈cs,f l=false)/\(b.2=true->f b.1=true/\b.1∈cs/\∀l∈cs,f l=true->l=b.1\/bt b.1.length l.length=true\/(b.1.length=l.length/\Lx b.1 l))
theorem Z4q{f:List Int->Bool}{bt:Int->Int->Bool}(hb:Bt bt):∀(cs done:List (List Int))(b:List Int×Bool),(done++cs).Pairwise Lx->Zdz f bt done b->Zdz f bt (done++cs) (ZaG f bt b cs)
 |[],done,b,_,h=>by rw[List.append_nil];exact h
 |l::cs,done,b,hp,h=>by
  have e:done++l::cs=(done++[l])++cs:=by simp
  rw[e] at hp⊢;refine Z4q hb cs (done++[l]) _ hp ?_;show Zdz f bt (done++[l]) (if((!b.2||bt l.length b.1.length)&&f l)=true then(l,true) else b);have hlx:∀l'∈done,Lx l' l:=by
   intro l' hl';have h1:=(List.pairwise_append.1 hp).1;exact(List.pairwise_append.1 h1).2.2 l' hl' l (by simp)
  obtain⟨h1,h2⟩:=h;cases hf:f l with
  |false=>
   rw[Bool.and_false,if_neg (by decide)];refine⟨fun Ao=>⟨(h1 Ao).1,fun l' hl'=> ?_⟩,fun Ao=>⟨(h2 Ao).1,List.mem_append_left _ (h2 Ao).2.1,fun l' hl' I9=> ?_⟩⟩
   ·rcases List.mem_append.1 hl' with hm|hm
    ·exact(h1 Ao).2 l' hm
    ·rw[List.mem_singleton.1 hm];exact hf
   ·rcases List.mem_append.1 hl' with hm|hm
    ·exact(h2 Ao).2.2 l' hm I9
    ·rw[List.mem_singleton.1 hm,hf] at I9;cases I9
  |true=>
   rw[Bool.and_true];by_cases hc:(!b.2||bt l.length b.1.length)=true
   ·rw[if_pos hc];refine⟨fun h=>(by cases h),fun _=>⟨hf,by simp,fun l' hl' I9=> ?_⟩⟩;rcases List.mem_append.1 hl' with hm|hm
    ·right
     show bt l.length l'.length=true\/_;cases Ao:b.2 with
     |false=>rw[(h1 Ao).2 l' hm] at I9;cases I9
     |true=>
      rw[Ao] at hc;simp only[Bool.not_true,Bool.false_or] at hc;left;rcases(h2 Ao).2.2 l' hm I9 with rfl|h3|⟨h3,_⟩
      ·exact hc
      ·exact hb.trans _ _ _ hc h3
      ·rw[<-h3];exact hc
    ·exact .inl (List.mem_singleton.1 hm)
   ·rw[if_neg hc];have Ao:b.2=true:=by
     cases Ao:b.2 with
     |true=>rfl
     |false=>rw[Ao] at hc;simp at hc
    rw[Ao] at hc;simp only[Bool.not_true,Bool.false_or] at hc;refine⟨fun h=>(by rw[Ao] at h;cases h),fun _=>⟨(h2 Ao).1,List.mem_append_left _ (h2 Ao).2.1,fun l' hl' I9=> ?_⟩⟩;rcases List.mem_append.1 hl' with hm|hm
    ·exact(h2 Ao).2.2 l' hm I9
    ·rw[List.mem_singleton.1 hm];right;by_cases hl:b.1.length=l.length
     ·exact .inr ⟨hl,hlx _ (h2 Ao).2.1⟩
     ·exact .inl ((hb.total _ _ (fun h=>hl (by omega))).resolve_right hc)
theorem ZaH{n:Nat}(hn:n<=8){f:Nat->Bool}{g:List Int->Bool}{bt:Int->Int->Bool}(hb:Bt bt)(Vi:∀k,k<2 ^ n->f k=g (ZN k)):ZN (Zm f bt (2 ^ n)).1=(ZaG g bt ([],false) (chooseR (upL n))).1:=by
 have Yn:2 ^ n<=256:=by have:=Nat.pow_le_pow_right (n:=2) (by omega) hn;exact this
 obtain⟨h1,h2⟩:=Z4p (f:=f) hb (2 ^ n) Yn;have T8:(upL n).Pairwise (·<·):=by
  rw[upL,List.pairwise_map];exact List.pairwise_lt_range.imp fun h=>by omega
 obtain⟨k1,k2⟩:=Z4q (f:=g) hb (chooseR (upL n)) [] ([],false) (by rw[YJ];exact chooseR_lx _ T8) ⟨fun _=>⟨rfl,fun l hl=>by cases hl⟩,fun h=>by cases h⟩;rw[YJ] at k1 k2;cases hp:(ZaG g bt ([],false) (chooseR (upL n))).2 with
 |false=>
  have hz:=(k1 hp).2;have:(Zm f bt (2 ^ n)).2=false:=by
   cases hf:(Zm f bt (2 ^ n)).2 with
   |false=>rfl
   |true=>
    have h3:=h2 hf;have h4:=hz _ (Z4o hn h3.2.1);rw[<-Vi _ h3.2.1,h3.1] at h4;cases h4
  rw[(h1 this).1,(k1 hp).1];rfl
 |true=>
  obtain⟨k3,k4,k5⟩:=k2 hp;obtain⟨m,hm,em⟩:=Z8E hn k4;have hf:(Zm f bt (2 ^ n)).2=true:=by
   cases hf:(Zm f bt (2 ^ n)).2 with
   |true=>rfl
   |false=>
    have:=(h1 hf).2 m hm;rw[Vi m hm,<-em,k3] at this;cases this
  obtain⟨h3,h4,h5⟩:=h2 hf;rcases k5 _ (Z4o hn h4) (by rw[<-Vi _ h4];exact h3) with k6|k6
  ·exact k6
  ·rcases h5 m hm (by rw[Vi m hm,<-em];exact k3) with rfl|h6
   ·exact em.symm
   ·exfalso;rw[em] at k6;have A3:∀k,(ZN k).length=(bl k).length:=fun k=>by simp[ZN]
    rw[A3,A3] at k6;rcases h6 with h6|⟨h6,h7⟩<;>rcases k6 with k6|⟨k6,k7⟩
    ·exact hb.asym _ _ h6 k6
    ·rw[k6] at h6;exact hb.asym _ _ h6 h6
    ·rw[h6] at k6;exact hb.asym _ _ k6 k6
    ·exact(h7.trans (lx_LB k7 (by rw[A3,A3];exact k6))).irrefl
def Zes(r0 r1 r2 r3:Int)(S:List Rs):List Int:=(ZaG (fun l=> !Z20 r0 r1 r2 r3 S l) (fun a b=>decide (a<b)) ([],false) (chooseR (upL S.length))).1
def Zcy(r0 r1 r2 r3:Int)(S:List Rs):List Int:=(chooseR (upL S.length)).foldl (fun b l=>if decide (b.length<l.length)&&Z20 r0 r1 r2 r3 S l then l else b) []
theorem Zc5{r0 r1 r2 r3:Int}{S:List Rs}(hc:CardOk r0 r1 r2 r3 S):Z7L r0 r1 r2 r3 S=Zes r0 r1 r2 r3 S:=
 ZaH hc.len bt_lt fun k hk=>by
  rw[Z6X hc hk];cases Z20 r0 r1 r2 r3 S (ZN k)<;>rfl
theorem Zc6{r0 r1 r2 r3:Int}{S:List Rs}(hc:CardOk r0 r1 r2 r3 S):Z7M r0 r1 r2 r3 S=Zcy r0 r1 r2 r3 S:=by
 have h:=ZaH (n:=S.length) hc.len bt_gt (f:=fun k=>Zz (cvS r0 r1 r2 r3 (S.map Ze)) k S.length==true) (g:=Z20 r0 r1 r2 r3 S) fun k hk=>by
  rw[Z6X hc hk];cases Z20 r0 r1 r2 r3 S (ZN k)<;>rfl
 refine Eq.trans h ?_;rw[Zcy,chooseR_head,ZaG,List.foldl_cons,List.foldl_cons];have e:Z20 r0 r1 r2 r3 S []=true:=rfl;simp only[e,Bool.not_false,Bool.true_or,Bool.and_self,if_true,List.length_nil,Nat.lt_irrefl,decide_false,Bool.false_and,YR,if_false];generalize (chooseR (upL S.length)).tail=cs;have key:∀(cs:List (List Int))(b:List Int),(cs.foldl (fun(b:List Int×Bool) l=>if(!b.2||decide ((b.1.length:Int)<(l.length:Int)))&&Z20 r0 r1 r2 r3 S l then(l,true) else b) (b,true)).1=cs.foldl (fun b l=>if decide (b.length<l.length)&&Z20 r0 r1 r2 r3 S l then l else b) b:=by
  intro cs
  induction cs with
  |nil=>intro b;rfl
  |cons l cs ih=>
   intro b;rw[List.foldl_cons,List.foldl_cons];have e:((!true||decide ((b.length:Int)<(l.length:Int)))&&Z20 r0 r1 r2 r3 S l)=(decide (b.length<l.length)&&Z20 r0 r1 r2 r3 S l):=by simp
   show(cs.foldl _ (if((!true||decide ((b.length:Int)<(l.length:Int)))&&Z20 r0 r1 r2 r3 S l)=true then(l,true) else(b,true))).1=_;rw[e];by_cases hh:(decide (b.length<l.length)&&Z20 r0 r1 r2 r3 S l)=true
   ·rw[if_pos hh,if_pos hh];exact ih l
   ·rw[if_neg hh,if_neg hh];exact ih b
 exact key cs []
end Go.Proofs.Tryq
namespace Go.Proofs.Tryq
set_option maxRecDepth 100000
set_option maxHeartbeats 4000000
open Go Go.Nk Go.RowKit
def Z8F(r0 r1 r2 r3:Int)(S:List Rs)(a m k:Int):Int:=firstV (Zy r0 r1 r2 r3 S [Zv a,Z87 m k])
def hitV(x:Int×Int)(m k:Int):Int:=if max x.1 (wrap64 (m - k))=x.1/\min x.2 (wrap64 (m+k))=x.2 then 1 else if min x.2 (wrap64 (m+k))<max x.1 (wrap64 (m - k)) then 2 else 0
def Z6c(r0 r1 r2 r3:Int)(S:List Rs)(a m k:Int):Int:=if Z8F r0 r1 r2 r3 S a m k=0 then hitV (Z4L r0 r1 r2 r3 S a) m k else 0
theorem Zfl{w:World}{c b i j:Nat}{u v:Value}{o:Obj}(hn:c≠b)(h:w.heap[c]? =some o):((w.setCell ⟨b,i,none⟩ u).setCell ⟨b,j,none⟩ v).heap[c]? =some o:=
 (set_ne (w:=w.setCell _ _) hn _).trans ((set_ne hn _).trans h)
theorem Zc7(r0 r1 r2 r3:Int)(base:Option Addr)(n cap:Nat)(w:World)(at' mark within:Int)(S:List Rs)(A3:S.length=n)(hS:RawS w base S)(D6:Most w):
 Calls prog 53 #[.agg #[.int .i64 r0,.int .i64 r1,.int .i64 r2,.int .i64 r3,.slice base n cap],.int .i64 at',.int .i64 mark,.int .i64 within] w fun e w'=>
  e= .returned (.tuple #[.int .i64 (Z6c r0 r1 r2 r3 S at' mark within),.int .i64 (Z8F r0 r1 r2 r3 S at' mark within)])/\Ext w w':=by
 go_enter func53,ntmps53;go_wp2_with fail;have As:Ext w _:=(((Ext.rfl' w).alloc (.cells #[.int .i64 r0,.int .i64 r1,.int .i64 r2,.int .i64 r3,.slice base n cap] 70)).alloc (.cells #[.int .i64 mark] 3)).alloc (.cells #[.int .i64 within] 3);have hb:(((w.alloc (.cells #[.int .i64 r0,.int .i64 r1,.int .i64 r2,.int .i64 r3,.slice base n cap] 70)).alloc (.cells #[.int .i64 mark] 3)).alloc (.cells #[.int .i64 within] 3)).heap[w.heap.size]? =some (.cells #[.int .i64 r0,.int .i64 r1,.int .i64 r2,.int .i64 r3,.slice base n cap] 70):=by
  simp only[Z3,Z2];rw[if_neg (by omega),if_neg (by omega),if_pos trivial]
 have hZ:(((w.alloc (.cells #[.int .i64 r0,.int .i64 r1,.int .i64 r2,.int .i64 r3,.slice base n cap] 70)).alloc (.cells #[.int .i64 mark] 3)).alloc (.cells #[.int .i64 within] 3)).heap[w.heap.size+1]? =some (.cells #[.int .i64 mark] 3):=by
  simp only[Z3,Z2];rw[if_neg (by omega),if_pos trivial]
 have hY:(((w.alloc (.cells #[.int .i64 r0,.int .i64 r1,.int .i64 r2,.int .i64 r3,.slice base n cap] 70)).alloc (.cells #[.int .i64 mark] 3)).alloc (.cells #[.int .i64 within] 3)).heap[w.heap.size+1+1]? =some (.cells #[.int .i64 within] 3):=by
  simp only[Z3,Z2];rw[if_pos trivial]
 generalize World.alloc _ _=w1 at As hb hZ hY⊢;have hX:=Ext.rfl' w1;have q0:=Z0 hb 0;have q1:=Z0 hb 1;have q2:=Z0 hb 2;have q3:=Z0 hb 3;have q4:=Z0 hb 4;simp only[YC,YA,YB] at q0 q1 q2 q3 q4;have g0:=Zet q0;have g1:=Zet q1;have g2:=Zet q2;have g3:=Zet q3;have g4:=Zet q4;have r1':w1.cell? ⟨w.heap.size+1,0,none⟩=some (.int .i64 mark):=by rw[Z0 hZ];rfl
 have r2':w1.cell? ⟨w.heap.size+1+1,0,none⟩=some (.int .i64 within):=by rw[Z0 hY];rfl
 refine Zfn 10 9 10 [0,1,2,3,4,5,6,7] (.cells #[.int .i64 0,.int .i64 0,.int .i64 0,.int .i64 0,.slice none 0 0,.slice none 0 0] 146) (by kernel_rfl) rfl (by kernel_rfl) rfl rfl (fun a W=>by simp[go_sem,execOp,Act.eval]) ?_;refine Zfj [0,1,3] (by kernel_rfl) rfl rfl (by kernel_rfl) ?_;simp only[ZeD,YB,YA,YK,YJ]
 repeat (go_big_quiet_step (fail))
 refine wpQuiet_nil ?_;refine Zfk 2 rfl (by kernel_rfl) rfl (fun W hW=>Zfo (f:=104) (args:= #[.int .i64 at']) (by simp[go_sem,execOp,Act.eval]) ?_);refine(Z9v at' W).mono ?_;rintro e V0 ⟨p0,rfl,hF,Bz⟩;refine⟨.func (.func 151) #[] #[.pointer (some ⟨p0,0,none⟩)],rfl,hF,?_⟩;replace hX:=hX.trans (hW.trans hF);clear hF hW;go_simp;refine Zfk 4 rfl (by kernel_rfl) rfl (fun W hW=>Zf3 ⟨.slice (some ⟨W.heap.size,0,none⟩) 2 2,W.alloc (.cells #[.func (.func 151) #[] #[.pointer (some ⟨p0,0,none⟩)],.func (.func 113) #[] #[.pointer (some ⟨w.heap.size+1,0,none⟩),.pointer (some ⟨w.heap.size+1+1,0,none⟩)]] 127),by simp[go_sem,execOp,Act.eval],(Ext.rfl' W).alloc _,?_⟩);have C7:=Z30 W #[.func (.func 151) #[] #[.pointer (some ⟨p0,0,none⟩)],.func (.func 113) #[] #[.pointer (some ⟨w.heap.size+1,0,none⟩),.pointer (some ⟨w.heap.size+1+1,0,none⟩)]] [(151,#[],#[.pointer (some ⟨p0,0,none⟩)]),(113,#[],#[.pointer (some ⟨w.heap.size+1,0,none⟩),.pointer (some ⟨w.heap.size+1+1,0,none⟩)])] W.heap.size rfl rfl;have hF:=(hW.alloc (.cells #[.func (.func 151) #[] #[.pointer (some ⟨p0,0,none⟩)],.func (.func 113) #[] #[.pointer (some ⟨w.heap.size+1,0,none⟩),.pointer (some ⟨w.heap.size+1+1,0,none⟩)]] 127));replace hX:=hX.trans hF
 replace Bz:=hF.cellS Bz;clear hF hW;generalize W.heap.size=B2 at C7⊢;generalize World.alloc W _=V9 at*;go_simp;refine Zfk 5 rfl (by kernel_rfl) rfl (fun W hW=>Zfo (f:=103) (args:= #[.agg #[.int .i64 r0,.int .i64 r1,.int .i64 r2,.int .i64 r3,.slice base n cap],.slice (some ⟨B2,0,none⟩) 2 2]) (by simp[go_sem,execOp,Act.eval]) ?_)
 refine(Z4K r0 r1 r2 r3 base n cap W 2 B2 (by omega) [(151,#[],#[.pointer (some ⟨p0,0,none⟩)]),(113,#[],#[.pointer (some ⟨w.heap.size+1,0,none⟩),.pointer (some ⟨w.heap.size+1+1,0,none⟩)])] [Zv at',Z87 mark within] rfl rfl (fun j x hj=>hW.cellS (C7 j x hj)) (by intro x hx args w';simp only[List.mem_cons,List.not_mem_nil,or_false] at hx;rcases hx with rfl|rfl<;>simp[go_sem]) (by
       intro j x r hj hr w' hw'
       match j,hj,hr with
       |0,hj,hr=>
        obtain rfl:=YT hj;obtain rfl:=YT hr;exact Z3x p0 at' w' ((hW.trans hw').cellS Bz)
       |1,hj,hr=>
        obtain rfl:=YT hj;obtain rfl:=YT hr;exact ZcY _ _ mark within w' ((hX.trans (hW.trans hw')).cellS r1') ((hX.trans (hW.trans hw')).cellS r2')) S A3 (hS.ext (As.trans (hX.trans hW))) (D6.ext (As.trans (hX.trans hW)))).mono ?_
 rintro e V10 ⟨k0,k1,k2,k3,b4,n4,c4,b5,n5,c5,rfl,hF,Ca⟩;refine⟨.tuple #[.agg #[.int .i64 k0,.int .i64 k1,.int .i64 k2,.int .i64 k3,.slice b4 n4 c4,.slice b5 n5 c5],.int .i64 (firstV (Zy r0 r1 r2 r3 S [Zv at',Z87 mark within]))],rfl,hF,?_⟩;replace hX:=hX.trans (hW.trans hF);have Aq:Askd r0 r1 r2 r3 base n cap S [Zv at',Z87 mark within] k0 k1 k2 k3 b4 n4 c4 b5 n5 c5 V10:=fun h=>by obtain⟨B,p,h0,h1,h2,h3,h4,h5,h6,h7,h8,h9,hC,_⟩:=Ca h;exact⟨B,p,h0,h1,h2,h3,h4,h5,h6,h7,h8,h9,hC⟩
 clear hF hW Ca C7 Bz;go_simp;refine Zfj [6,7,8] (by kernel_rfl) rfl rfl (by kernel_rfl) ?_;simp only[ZeD,YB,YA,YK,YJ]
 repeat (go_big_quiet_step (fail))
 refine wpQuiet_nil ?_;refine Zfq (by kernel_rfl) (fun W hW b hA Bj Ag=> ?_);have Gi:w1.heap.size<=b:=hA.1.1.1;replace hX:=hX.trans hW;replace Aq:=Aq.ext hW;clear r1' r2';clear hW;go_simp;refine Zfp 2 (by kernel_rfl) (fun W hW=> ?_);simp only[List.drop_succ_cons,List.drop_zero];replace hX:=hX.trans hW;replace Aq:=Aq.ext hW;replace Ag:=hW.get Ag;have D0:w.heap.size<=b:=by have h1:=Gi;have h2:=As.size;omega
 have Ts:=hX.get hZ;have Vj:w.heap.size+1≠b:=by have h1:=Gi;have h2:=Z5 hZ;omega
 have Tt:=hX.get hY;have Vk:w.heap.size+1+1≠b:=by have h1:=Gi;have h2:=Z5 hY;omega
 have Ba:=As.trans hX;clear hA Gi Bj hW hX As hb q0 q1 q2 q3 q4 g0 g1 g2 g3 g4 hZ hY;have x0:=Z8 Ag 0;have x1:=Z8 Ag 1;have x2:=Z8 Ag 2;have x3:=Z8 Ag 3;have x4:=Z8 Ag 4;have x5:=Z8 Ag 5;have y0:=Z0 Ag 0;have y1:=Z0 Ag 1;have y2:=Z0 Ag 2;have y3:=Z0 Ag 3;have y4:=Z0 Ag 4;have y5:=Z0 Ag 5;simp only[YC,YA,YB] at y0 y1 y2 y3 y4 y5;have Ac:=Z0K Ag (.int .i64 k0) (.int .i64 k1) (.int .i64 k2) (.int .i64 k3) (.slice b4 n4 c4) (.slice b5 n5 c5);obtain⟨hX,Dc⟩:=Ac;replace Aq:=Aq.stored Ag Dc;replace Ba:=Dc.before Ba D0;have Lf:=Dc.get Vj Ts;have Mt:=Dc.get Vk Tt;go_wp2_with fail;generalize ((((((W.setCell ⟨b,0,none⟩ (.int .i64 k0)).setCell ⟨b,1,none⟩ (.int .i64 k1)).setCell ⟨b,2,none⟩ (.int .i64 k2)).setCell ⟨b,3,none⟩ (.int .i64 k3)).setCell ⟨b,4,none⟩ (.slice b4 n4 c4)).setCell ⟨b,5,none⟩ (.slice b5 n5 c5))=X at hX Aq Ba Dc Lf Mt⊢;clear Dc Ag D0 x0 x1 x2 x3 x4 x5 y0 y1 y2 y3 y4 y5 Ts Tt;refine Zfm ?_;go_wp2_with fail
 ·have A9:(firstV (Zy r0 r1 r2 r3 S [Zv at',Z87 mark within]) !=0)=true:=by assumption
  have Bq:¬Z8F r0 r1 r2 r3 S at' mark within=0:=by simpa[Z8F] using A9
  go_ret2;exact⟨by rw[Z6c,if_neg Bq];rfl,Ba⟩
 ·have heq:(firstV (Zy r0 r1 r2 r3 S [Zv at',Z87 mark within]) !=0)=false:=by assumption
  have Bq:firstV (Zy r0 r1 r2 r3 S [Zv at',Z87 mark within])=0:=by simpa using heq
  obtain⟨Ei,Fm,D3,Np⟩:=Z11 Bq;obtain⟨_,h8,_⟩:=Z0i Ei;have Cj:=Z0N (Fm (Zv at') (by simp));obtain⟨d,rfl⟩:=Int.eq_ofNat_of_zero_le Cj.1;have E8:d<=90:=by omega
  obtain⟨B,p',e0,e1,e2,e3,e4,e5,e6,e7,e8,e9,hC⟩:=Aq Bq;subst k0 k1 k2 k3 b4 n4 c4 b5 n5 c5;have E3:n<=8:=by omega
  have Bh:=fun v w'=>Z08 r0 r1 r2 r3 base n cap v E3 w'
  have hat:=fun w' hm' hC'=>Z2Y r0 r1 r2 r3 (.slice base n cap) B n d (2 ^ n - 1) p' (cvS r0 r1 r2 r3 (S.map Ze)) E3 E8 (Z2Z E3) w' hm' hC'
  have HV:Hid (Z4L r0 r1 r2 r3 S d=atF (cvS r0 r1 r2 r3 (S.map Ze)) (2 ^ n - 1) d n):=by
   show _=_;rw[Z4L,Int.toNat_natCast,A3]
  have Dr:Hid (Z8F r0 r1 r2 r3 S d mark within=0):=Bq;have Fb:=D6.ext Ba;clear Aq Ei Fm D3 Np heq Bq Cj;generalize (2:Int) ^ n - 1=st at Bh hat HV;generalize atF (cvS r0 r1 r2 r3 (S.map Ze)) st d n=V at hat HV;obtain⟨va,vb⟩:=V;have x0:=Z0 hX 0;have x1:=Z0 hX 1;have x2:=Z0 hX 2;have x3:=Z0 hX 3;have x4:=Z0 hX 4;have x5:=Z0 hX 5;simp only[YC,YA,YB] at x0 x1 x2 x3 x4 x5;have c0:=Zet x0;have c1:=Zet x1;have c2:=Zet x2;have c3:=Zet x3;have c4:=Zet x4;have c5:=Zet x5;refine Zfn 6 5 12 [0,1,2,3,4] (.cells #[.int .i64 0,.int .i64 0] 48) (by kernel_rfl) rfl (by kernel_rfl) rfl rfl (fun a W=>by simp[go_sem,execOp,Act.eval]) ?_;refine Zfj [0,1,3] (by kernel_rfl) rfl rfl (by kernel_rfl) ?_;simp only[ZeD,YB,YA,YK,YJ]
  repeat (go_big_quiet_step (fail))
  refine wpQuiet_nil ?_;refine Zfr 2 (f:=106) (args:= #[.agg #[.int .i64 r0,.int .i64 r1,.int .i64 r2,.int .i64 r3,.slice base n cap,.slice (some ⟨B,0,none⟩) n n]]) (v:= .int .i64 st) (by kernel_rfl) rfl rfl rfl (by kernel_rfl) rfl (fun W=>by simp[go_sem,execOp,Act.eval]) (fun W _=>Bh _ W) ?_;go_simp;refine Zfr 4 (f:=105) (args:= #[.agg #[.int .i64 r0,.int .i64 r1,.int .i64 r2,.int .i64 r3,.slice base n cap,.slice (some ⟨B,0,none⟩) n n],.int .i64 st,.int .i64 d]) (v:= .agg #[.int .i64 va,.int .i64 vb]) (by kernel_rfl) rfl rfl rfl (by kernel_rfl) rfl (fun W=>by simp[go_sem,execOp,Act.eval]) (fun W hW=>hat W (Fb.ext hW) (hC.ext hW)) ?_;go_simp;refine Zfq (by kernel_rfl) (fun W hW b hA Bj Ag=> ?_);obtain⟨bx,rfl⟩:∃bx,bx=b:=⟨_,rfl⟩;have Ar:=hW;clear hW;go_simp;refine Zfp 1 (by kernel_rfl) (fun W hW=> ?_);simp only[List.drop_succ_cons,List.drop_zero];replace Ag:=hW.get Ag;have Bw:=(Ba.trans Ar).trans hW;have D0:w.heap.size<=bx:=by have h1:=hA;have h2:=Ba.size;omega
  have Gz:=set_pair Ag (.int .i64 va) (.int .i64 vb);have Kc:=(Bw.setCell ⟨bx,0,none⟩ (.int .i64 va) D0).setCell ⟨bx,1,none⟩ (.int .i64 vb) D0;have g:=Zc Ag;have g0:=g.1;have g1:=g.2.1;have g2:=g.2.2.1;have g3:=g.2.2.2;have hZY:=Zfl (w:=W) (b:=bx) (i:=0) (j:=1) (u:= .int .i64 va) (v:= .int .i64 vb) (by have h1:=Z5 Lf;omega) (hW.get (Ar.get Lf));have hYY:=Zfl (w:=W) (b:=bx) (i:=0) (j:=1) (u:= .int .i64 va) (v:= .int .i64 vb) (by have h1:=Z5 Mt;omega) (hW.get (Ar.get Mt));clear Lf Mt;clear g Bw Ba hW Ar D0 hA Bj Fb Bh hat hX x0 x1 x2 x3 x4 x5 c0 c1 c2 c3 c4 c5 hC;go_wp2_with fail;generalize (W.setCell ⟨bx,0,none⟩ (.int .i64 va)).setCell ⟨bx,1,none⟩ (.int .i64 vb)=Y at*;clear g0 g1 g2 g3 Ag;refine Zfm ?_;have g:=Zc Gz;have g0:=g.1;have g1:=g.2.1;have g2:=g.2.2.1;have g3:=g.2.2.2;have hm:=Z0 hZY 0;have hw:=Z0 hYY 0;simp only[YC,YA,YB] at hm hw;clear hZY hYY;go_wp2_with (first|(go_at_call 114;refine(Z7i _ _ _ _ _).mono ?_;rintro e w9 ⟨rfl,Dm⟩;have hx9:=Zc (Dm.get Gz);have j0:=hx9.1;have j1:=hx9.2.1;have K7:bx<w9.heap.size:=Z5 (Dm.get Gz);have hp9:∀(o:Obj)(i:Nat),(w9.alloc o).cell? ⟨bx,i,none⟩=w9.cell? ⟨bx,i,none⟩:=fun o i=>World.cell?_alloc_lt _ _ _ K7))
  all_goals
   go_ret2;refine⟨?_,(Kc.trans Dm).alloc _⟩;rw[Z6c,if_pos Dr.out,Dr.out,HV.out];simp at*;rw[hitV]
   first|rw[if_pos (by omega)]|(rw[if_neg (by omega)];first|rw[if_pos (by omega)]|rw[if_neg (by omega)])
end Go.Proofs.Tryq
