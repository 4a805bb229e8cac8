import Derived.Test.YtedkbdkbbnemlaaGreatDoorNk23
set_option linter.all false
namespace Go.Proofs.Tryq
open Go Go.Nk Go.RowKit
def LB(a b:Nat):Prop:=∃x,x<8∧a.testBit x=true∧b.testBit x=false∧∀j,j<x→a.testBit j=b.testBit j
theorem LB.trans{a b c:Nat}:LB a b→LB b c→LB a c:=by
 rintro⟨x,hx,h1,h2,h3⟩ ⟨y,hy,k1,k2,k3⟩
 rcases Nat.lt_trichotomy x y with h|h|h
 ·exact⟨x,hx,h1,by rw[←k3 x h];exact h2,fun j hj=>(h3 j hj).trans (k3 j (by omega))⟩
 ·subst h;rw[h2] at k1;cases k1
 ·exact⟨y,hy,by rw[h3 y h];exact k1,k2,fun j hj=>(h3 j (by omega)).trans (k3 j hj)⟩
theorem LB.irrefl{a:Nat}(h:LB a a):False:=by
 obtain⟨x,_,h1,h2,_⟩:=h
 rw[h1] at h2
 cases h2
theorem low_all:(List.range 256).all (fun x=>x==0||(decide (tz x<8)&&bits .and .i64 (x:Int) (wrap64 (-(x:Int)))==((2 ^ tz x:Nat):Int)&&x.testBit (tz x)&&(List.range (tz x)).all fun j=> !x.testBit j))=true:=by kernel_rfl
theorem and_all:(List.range 256).all (fun a=>(List.range 8).all fun i=>(bits .and .i64 (a:Int) ((2 ^ i:Nat):Int) !=0)==a.testBit i)=true:=by kernel_rfl
theorem ZaF{a b:Nat}(ha:a<256)(hb:b<256):bits .xor .i64 (a:Int) (b:Int)=((a ^^^ b:Nat):Int):=by
 have hx:a ^^^ b<2 ^ 8:=Nat.xor_lt_two_pow (by omega) (by omega)
 have h1:(BitVec.ofInt 64 (a:Int)).toNat=a:=by
  rw[BitVec.ofInt_natCast,BitVec.toNat_ofNat];exact Nat.mod_eq_of_lt (by omega)
 have h2:(BitVec.ofInt 64 (b:Int)).toNat=b:=by
  rw[BitVec.ofInt_natCast,BitVec.toNat_ofNat];exact Nat.mod_eq_of_lt (by omega)
 show IntKind.i64.wrap ((BitVec.ofInt 64 (a:Int) ^^^ BitVec.ofInt 64 (b:Int)).toNat:Int)=_
 rw[BitVec.toNat_xor,h1,h2,IntKind.wrap_i64]
 omega
theorem Z4m{a b:Nat}(ha:a<256)(hb:b<256)(hne:a≠b):∃i,i<8∧a.testBit i≠b.testBit i∧(∀j,j<i→a.testBit j=b.testBit j)∧Z1g a b=a.testBit i:=by
 have hx:a ^^^ b<2 ^ 8:=Nat.xor_lt_two_pow (by omega) (by omega)
 have h0:a ^^^ b≠0:=fun h=>hne (Nat.eq_of_testBit_eq fun i=>by have h9:=congrArg (fun x=>x.testBit i) h;simp[Nat.testBit_xor] at h9;exact h9)
 have h1:=List.all_eq_true.1 low_all _ (List.mem_range.2 hx)
 simp only[Bool.or_eq_true,Bool.and_eq_true,beq_iff_eq,decide_eq_true_eq,h0,false_or,List.all_eq_true,List.mem_range] at h1
 obtain⟨⟨⟨h2,h3⟩,h4⟩,h5⟩:=h1
 have h6:=List.all_eq_true.1 (List.all_eq_true.1 and_all a (List.mem_range.2 ha)) _ (List.mem_range.2 h2)
 rw[beq_iff_eq] at h6
 refine⟨tz (a ^^^ b),h2,?_,?_,?_⟩
 ·rw[Nat.testBit_xor] at h4
  intro e
  rw[e] at h4
  simp at h4
 ·intro j hj
  have:=h5 j hj
  rw[Nat.testBit_xor] at this
  cases h:a.testBit j<;>cases h':b.testBit j<;>simp[h,h'] at this⊢
 ·unfold Z1g
  rw[ZaF ha hb,h3,h6]
  have:((((a ^^^ b:Nat):Int)) !=0)=true:=by simp[h0]
  rw[this,Bool.true_and]
theorem Z4n{a b:Nat}(ha:a<256)(hb:b<256):Z1g a b=true↔LB a b:=by
 by_cases hne:a=b
 ·subst hne
  constructor
  ·intro h
   unfold Z1g at h
   rw[ZaF ha ha] at h
   simp at h
  ·exact fun h=>h.irrefl.elim
 ·obtain⟨i,h1,h2,h3,h4⟩:=Z4m ha hb hne
  rw[h4]
  constructor
  ·intro h
   refine⟨i,h1,h,?_,h3⟩
   cases hb:b.testBit i with
   |false=>rfl
   |true=>rw[h,hb] at h2;exact absurd rfl h2
  ·rintro⟨x,hx,k1,k2,k3⟩
   rcases Nat.lt_trichotomy x i with h|h|h
   ·rw[h3 x h,k2] at k1;cases k1
   ·subst h;exact k1
   ·exact absurd (k3 i h) h2
theorem LB.total{a b:Nat}(ha:a<256)(hb:b<256)(hne:a≠b):LB a b∨LB b a:=by
 obtain⟨i,h1,h2,h3,_⟩:=Z4m ha hb hne
 cases h:a.testBit i with
 |true=>exact .inl ⟨i,h1,h,by cases hb:b.testBit i with|false=>rfl|true=>rw[h,hb] at h2;exact absurd rfl h2,h3⟩
 |false=>exact .inr ⟨i,h1,by cases hb:b.testBit i with|true=>rfl|false=>rw[h,hb] at h2;exact absurd rfl h2,h,fun j hj=>(h3 j hj).symm⟩
def Lx:List Int→List Int→Prop
 |_,[]=>False
 |[],_::_=>True
 |x::t,y::u=>x<y∨(x=y∧Lx t u)
theorem chooseR_lx:∀(s:List Int),s.Pairwise (·<·)→(chooseR s).Pairwise Lx
 |[],_=>by simp[chooseR]
 |x::t,hs=>by
  have ih:=chooseR_lx t (List.Pairwise.of_cons hs)
  have hcons:∀c∈(chooseR t).tail,∃y u,c=y::u∧y∈t:=by
   intro c hc
   have hne:=chooseR_ne t c hc
   have hsub:=chooseR_mem t c (List.mem_of_mem_tail hc)
   cases c with
   |nil=>exact absurd rfl hne
   |cons y c=>exact⟨y,c,rfl,hsub.subset List.mem_cons_self⟩
  rw[chooseR,List.pairwise_cons]
  constructor
  ·intro c hc
   rcases List.mem_append.1 hc with h|h
   ·obtain⟨y,_,rfl⟩:=List.mem_map.1 h;trivial
   ·obtain⟨y,u,rfl,_⟩:=hcons c h;trivial
  ·rw[List.pairwise_append]
   refine⟨?_,?_,?_⟩
   ·rw[List.pairwise_map]
    exact ih.imp fun h=> .inr ⟨rfl,h⟩
   ·rw[chooseR_head t] at ih
    exact List.Pairwise.of_cons ih
   ·intro a ha b hb
    obtain⟨y,_,rfl⟩:=List.mem_map.1 ha
    obtain⟨z,u,rfl,hz⟩:=hcons b hb
    exact .inl (List.rel_of_pairwise_cons hs hz)
theorem lx_first:∀{la lb:List Int},la.Pairwise (·<·)→lb.Pairwise (·<·)→Lx la lb→la.length=lb.length→∃x,x∈la∧x∉lb∧∀j,j<x→(j∈la↔j∈lb)
 |la,[],_,_,h,_=>by cases la<;>exact h.elim
 |[],_::_,_,_,_,h=>by simp at h
 |x::t,y::u,ha,hb,h,hl=>by
  rcases h with h|⟨rfl,h⟩
  ·have hyu:∀q∈y::u,y≤q:=by
    intro q hq
    rcases List.mem_cons.1 hq with rfl|hq
    ·exact Int.le_refl _
    ·exact Int.le_of_lt (List.rel_of_pairwise_cons hb hq)
   refine⟨x,List.mem_cons_self,fun hx=>by have:=hyu x hx;omega,fun j hj=>⟨fun hm=> ?_,fun hm=> ?_⟩⟩
   ·rcases List.mem_cons.1 hm with rfl|hm
    ·omega
    ·have:=List.rel_of_pairwise_cons ha hm;omega
   ·have:=hyu j hm;omega
  ·obtain⟨z,h1,h2,h3⟩:=lx_first (List.Pairwise.of_cons ha) (List.Pairwise.of_cons hb) h (by simpa using hl)
   have hz:=List.rel_of_pairwise_cons ha h1
   refine⟨z,List.mem_cons_of_mem _ h1,fun hm=> ?_,fun j hj=> ?_⟩
   ·rcases List.mem_cons.1 hm with rfl|hm
    ·omega
    ·exact h2 hm
   ·rw[List.mem_cons,List.mem_cons,h3 j hj]
def upL(n:Nat):List Int:=(List.range n).map fun(i:Nat)=>(i:Int)
def Zer(l:List Int):Nat:=l.foldl (fun m i=>m+2 ^ i.toNat) 0
theorem choose_all:(List.range 9).all (fun n=>(chooseR (upL n)).all fun l=>decide (Zer l<2 ^ n)&&ZN (Zer l)==l)=true:=by kernel_rfl
theorem set_all:(List.range 9).all (fun n=>(List.range (2 ^ n)).all fun k=>(ZN k).isSublist (upL n))=true:=by kernel_rfl
theorem Z8E{n:Nat}(hn:n≤8){l:List Int}(h:l∈chooseR (upL n)):∃k,k<2 ^ n∧l=ZN k:=by
 have:=List.all_eq_true.1 (List.all_eq_true.1 choose_all n (List.mem_range.2 (by omega))) l h
 simp only[Bool.and_eq_true,decide_eq_true_eq,beq_iff_eq] at this
 exact⟨_,this.1,this.2.symm⟩
theorem Z4o{n k:Nat}(hn:n≤8)(hk:k<2 ^ n):ZN k∈chooseR (upL n):=by
 have:=List.all_eq_true.1 (List.all_eq_true.1 set_all n (List.mem_range.2 (by omega))) k (List.mem_range.2 hk)
 exact mem_chooseR _ _ (List.isSublist_iff_sublist.1 this)
theorem Z7P(k:Nat):(ZN k).Pairwise (·<·):=by
 rw[ZN,List.pairwise_map,bl]
 exact(List.Pairwise.filter _ List.pairwise_lt_range).imp fun h=>by omega
theorem lx_LB{a b:Nat}(h:Lx (ZN a) (ZN b))(hl:(ZN a).length=(ZN b).length):LB a b:=by
 obtain⟨x,h1,h2,h3⟩:=lx_first (Z7P a) (Z7P b) h hl
 obtain⟨i,hi,hb,rfl⟩:=Zc4.1 h1
 refine⟨i,hi,hb,?_,fun j hj=> ?_⟩
 ·cases hbb:b.testBit i with
  |false=>rfl
  |true=>exact absurd (Zc4.2 ⟨i,hi,hbb,rfl⟩) h2
 ·have h4:=h3 (j:Int) (by omega)
  have h5:∀c:Nat,(j:Int)∈ZN c↔c.testBit j=true:=by
   intro c
   rw[Zc4]
   constructor
   ·rintro⟨i',_,h,e⟩
    have:i'=j:=by omega
    subst this
    exact h
   ·exact fun h=>⟨j,by omega,h,rfl⟩
  rw[h5,h5] at h4
  exact Bool.eq_iff_iff.2 h4
structure Bt(bt:Int→Int→Bool):Prop where
 asym:∀a b,bt a b=true→bt b a=true→False
 trans:∀a b c,bt a b=true→bt b c=true→bt a c=true
 total:∀a b,a≠b→bt a b=true∨bt b a=true
theorem bt_lt:Bt fun a b=>decide (a<b):=⟨fun a b h h'=>by simp at h h';omega,fun a b c h h'=>by simp at h h'⊢;omega,fun a b h=>by simp;omega⟩
theorem bt_gt:Bt fun a b=>decide (b<a):=⟨fun a b h h'=>by simp at h h';omega,fun a b c h h'=>by simp at h h'⊢;omega,fun a b h=>by simp;omega⟩
def BetS(bt:Int→Int→Bool)(a b:Nat):Prop:=bt (bl a).length (bl b).length=true∨((bl a).length=(bl b).length∧LB a b)
theorem BetS.trans{bt:Int→Int→Bool}(hb:Bt bt){a b c:Nat}:BetS bt a b→BetS bt b c→BetS bt a c:=by
 rintro(h|⟨h,h'⟩) (k|⟨k,k'⟩)
 ·exact .inl (hb.trans _ _ _ h k)
 ·exact .inl (by rw[←k];exact h)
 ·exact .inl (by rw[h];exact k)
 ·exact .inr ⟨h.trans k,h'.trans k'⟩
theorem Z4p{f:Nat→Bool}{bt:Int→Int→Bool}(hb:Bt bt):∀n,n≤256→((Zm f bt n).2=false→(Zm f bt n).1=0∧∀k,k<n→f k=false)∧((Zm f bt n).2=true→f (Zm f bt n).1=true∧(Zm f bt n).1<n∧∀k,k<n→f k=true→k=(Zm f bt n).1∨BetS bt (Zm f bt n).1 k)
 |0,_=>by simp[Zm]
 |n+1,hn=>by
  obtain⟨ih1,ih2⟩:=Z4p (f:=f) hb n (by omega)
  have hlt:=Z56 f bt n (by omega)
  rw[Zm]
  cases hf:f n with
  |false=>
   rw[Bool.false_and,if_neg (by decide)]
   refine⟨fun h=>⟨(ih1 h).1,fun k hk=> ?_⟩,fun h=>⟨(ih2 h).1,by have:=(ih2 h).2.1;omega,fun k hk hfk=> ?_⟩⟩
   ·by_cases e:k=n
    ·subst e;exact hf
    ·exact(ih1 h).2 k (by omega)
   ·by_cases e:k=n
    ·subst e;rw[hf] at hfk;cases hfk
    ·exact(ih2 h).2.2 k (by omega) hfk
  |true=>
   rw[Bool.true_and]
   by_cases hc:(!(Zm f bt n).2||bt (bl n).length (bl (Zm f bt n).1).length||((bl n).length==(bl (Zm f bt n).1).length&&Z1g n (Zm f bt n).1))=true
   ·rw[if_pos hc]
    refine⟨fun h=>(by cases h),fun _=>⟨hf,by omega,fun k hk hfk=> ?_⟩⟩
    by_cases e:k=n
    ·exact .inl e
    ·right
     show BetS bt n k
     cases hfo:(Zm f bt n).2 with
     |false=>rw[(ih1 hfo).2 k (by omega)] at hfk;cases hfk
     |true=>
      rw[hfo] at hc
      simp only[Bool.not_true,Bool.false_or,Bool.or_eq_true,Bool.and_eq_true,beq_iff_eq] at hc
      have h1:BetS bt n (Zm f bt n).1:=by
       rcases hc with hc|⟨hc,hl⟩
       ·exact .inl hc
       ·exact .inr ⟨hc,(Z4n (by omega) hlt).1 hl⟩
      rcases(ih2 hfo).2.2 k (by omega) hfk with rfl|h2
      ·exact h1
      ·exact h1.trans hb h2
   ·rw[if_neg hc]
    cases hfo:(Zm f bt n).2 with
    |false=>rw[hfo] at hc;simp at hc
    |true=>
     rw[hfo] at hc
     simp only[Bool.not_true,Bool.false_or,Bool.or_eq_true,Bool.and_eq_true,beq_iff_eq,not_or,not_and] at hc
     refine⟨fun h=>(by cases h),fun _=>⟨(ih2 hfo).1,by have:=(ih2 hfo).2.1;omega,fun k hk hfk=> ?_⟩⟩
     by_cases e:k=n
     ·subst e
      right
      by_cases hl:(bl k).length=(bl (Zm f bt k).1).length
      ·have hnl:=hc.2 hl
       rw[Z4n (by omega) hlt] at hnl
       have hne:k≠(Zm f bt k).1:=by have:=(ih2 hfo).2.1;omega
       exact .inr ⟨hl.symm,(LB.total (by omega) hlt hne).resolve_left hnl⟩
      ·exact .inl ((hb.total _ _ (fun h=>hl (by omega))).resolve_left hc.1)
     ·exact(ih2 hfo).2.2 k (by omega) hfk
def ZaG(f:List Int→Bool)(bt:Int→Int→Bool)(b:List Int×Bool)(cs:List (List Int)):List Int×Bool:=cs.foldl (fun b l=>if(!b.2||bt l.length b.1.length)&&f l then(l,true) else b) b
def Zdz(f:List Int→Bool)(bt:Int→Int→Bool)(cs:List (List Int))(b:List Int×Bool):Prop:=
 (b.2=false→b.1=[]∧∀l∈cs,f l=false)∧(b.2=true→f b.1=true∧b.1∈cs∧∀l∈cs,f l=true→l=b.1∨bt b.1.length l.length=true∨(b.1.length=l.length∧Lx b.1 l))
theorem Z4q{f:List Int→Bool}{bt:Int→Int→Bool}(hb:Bt bt):∀(cs done:List (List Int))(b:List Int×Bool),(done++cs).Pairwise Lx→Zdz f bt done b→Zdz f bt (done++cs) (ZaG f bt b cs)
 |[],done,b,_,h=>by rw[List.append_nil];exact h
 |l::cs,done,b,hp,h=>by
  have e:done++l::cs=(done++[l])++cs:=by simp
  rw[e] at hp⊢
  refine Z4q hb cs (done++[l]) _ hp ?_
  show Zdz f bt (done++[l]) (if((!b.2||bt l.length b.1.length)&&f l)=true then(l,true) else b)
  have hlx:∀l'∈done,Lx l' l:=by
   intro l' hl'
   have h1:=(List.pairwise_append.1 hp).1
   exact(List.pairwise_append.1 h1).2.2 l' hl' l (by simp)
  obtain⟨h1,h2⟩:=h
  cases hf:f l with
  |false=>
   rw[Bool.and_false,if_neg (by decide)]
   refine⟨fun hb2=>⟨(h1 hb2).1,fun l' hl'=> ?_⟩,fun hb2=>⟨(h2 hb2).1,List.mem_append_left _ (h2 hb2).2.1,fun l' hl' hfl=> ?_⟩⟩
   ·rcases List.mem_append.1 hl' with hm|hm
    ·exact(h1 hb2).2 l' hm
    ·rw[List.mem_singleton.1 hm];exact hf
   ·rcases List.mem_append.1 hl' with hm|hm
    ·exact(h2 hb2).2.2 l' hm hfl
    ·rw[List.mem_singleton.1 hm,hf] at hfl;cases hfl
  |true=>
   rw[Bool.and_true]
   by_cases hc:(!b.2||bt l.length b.1.length)=true
   ·rw[if_pos hc]
    refine⟨fun h=>(by cases h),fun _=>⟨hf,by simp,fun l' hl' hfl=> ?_⟩⟩
    rcases List.mem_append.1 hl' with hm|hm
    ·right
     show bt l.length l'.length=true∨_
     cases hb2:b.2 with
     |false=>rw[(h1 hb2).2 l' hm] at hfl;cases hfl
     |true=>
      rw[hb2] at hc
      simp only[Bool.not_true,Bool.false_or] at hc
      left
      rcases(h2 hb2).2.2 l' hm hfl with rfl|h3|⟨h3,_⟩
      ·exact hc
      ·exact hb.trans _ _ _ hc h3
      ·rw[←h3];exact hc
    ·exact .inl (List.mem_singleton.1 hm)
   ·rw[if_neg hc]
    have hb2:b.2=true:=by
     cases hb2:b.2 with
     |true=>rfl
     |false=>rw[hb2] at hc;simp at hc
    rw[hb2] at hc
    simp only[Bool.not_true,Bool.false_or] at hc
    refine⟨fun h=>(by rw[hb2] at h;cases h),fun _=>⟨(h2 hb2).1,List.mem_append_left _ (h2 hb2).2.1,fun l' hl' hfl=> ?_⟩⟩
    rcases List.mem_append.1 hl' with hm|hm
    ·exact(h2 hb2).2.2 l' hm hfl
    ·rw[List.mem_singleton.1 hm]
     right
     by_cases hl:b.1.length=l.length
     ·exact .inr ⟨hl,hlx _ (h2 hb2).2.1⟩
     ·exact .inl ((hb.total _ _ (fun h=>hl (by omega))).resolve_right hc)
theorem ZaH{n:Nat}(hn:n≤8){f:Nat→Bool}{g:List Int→Bool}{bt:Int→Int→Bool}(hb:Bt bt)(hfg:∀k,k<2 ^ n→f k=g (ZN k)):ZN (Zm f bt (2 ^ n)).1=(ZaG g bt ([],false) (chooseR (upL n))).1:=by
 have h256:2 ^ n≤256:=by have:=Nat.pow_le_pow_right (n:=2) (by omega) hn;exact this
 obtain⟨h1,h2⟩:=Z4p (f:=f) hb (2 ^ n) h256
 have hasc:(upL n).Pairwise (·<·):=by
  rw[upL,List.pairwise_map]
  exact List.pairwise_lt_range.imp fun h=>by omega
 obtain⟨k1,k2⟩:=Z4q (f:=g) hb (chooseR (upL n)) [] ([],false) (by rw[List.nil_append];exact chooseR_lx _ hasc) ⟨fun _=>⟨rfl,fun l hl=>by cases hl⟩,fun h=>by cases h⟩
 rw[List.nil_append] at k1 k2
 cases hp:(ZaG g bt ([],false) (chooseR (upL n))).2 with
 |false=>
  have hz:=(k1 hp).2
  have:(Zm f bt (2 ^ n)).2=false:=by
   cases hf:(Zm f bt (2 ^ n)).2 with
   |false=>rfl
   |true=>
    have h3:=h2 hf
    have h4:=hz _ (Z4o hn h3.2.1)
    rw[←hfg _ h3.2.1,h3.1] at h4
    cases h4
  rw[(h1 this).1,(k1 hp).1]
  rfl
 |true=>
  obtain⟨k3,k4,k5⟩:=k2 hp
  obtain⟨m,hm,em⟩:=Z8E hn k4
  have hf:(Zm f bt (2 ^ n)).2=true:=by
   cases hf:(Zm f bt (2 ^ n)).2 with
   |true=>rfl
   |false=>
    have:=(h1 hf).2 m hm
    rw[hfg m hm,←em,k3] at this
    cases this
  obtain⟨h3,h4,h5⟩:=h2 hf
  rcases k5 _ (Z4o hn h4) (by rw[←hfg _ h4];exact h3) with k6|k6
  ·exact k6
  ·rcases h5 m hm (by rw[hfg m hm,←em];exact k3) with rfl|h6
   ·exact em.symm
   ·exfalso
    rw[em] at k6
    have hlen:∀k,(ZN k).length=(bl k).length:=fun k=>by simp[ZN]
    rw[hlen,hlen] at k6
    rcases h6 with h6|⟨h6,h7⟩<;>rcases k6 with k6|⟨k6,k7⟩
    ·exact hb.asym _ _ h6 k6
    ·rw[k6] at h6;exact hb.asym _ _ h6 h6
    ·rw[h6] at k6;exact hb.asym _ _ k6 k6
    ·exact(h7.trans (lx_LB k7 (by rw[hlen,hlen];exact k6))).irrefl
def Zes(r0 r1 r2 r3:Int)(S:List Rs):List Int:=(ZaG (fun l=> !Z20 r0 r1 r2 r3 S l) (fun a b=>decide (a<b)) ([],false) (chooseR (upL S.length))).1
def Zcy(r0 r1 r2 r3:Int)(S:List Rs):List Int:=(chooseR (upL S.length)).foldl (fun b l=>if decide (b.length<l.length)&&Z20 r0 r1 r2 r3 S l then l else b) []
theorem Zc5{r0 r1 r2 r3:Int}{S:List Rs}(hc:CardOk r0 r1 r2 r3 S):Z7L r0 r1 r2 r3 S=Zes r0 r1 r2 r3 S:=
 ZaH hc.len bt_lt fun k hk=>by
  rw[Z6X hc hk]
  cases Z20 r0 r1 r2 r3 S (ZN k)<;>rfl
theorem Zc6{r0 r1 r2 r3:Int}{S:List Rs}(hc:CardOk r0 r1 r2 r3 S):Z7M r0 r1 r2 r3 S=Zcy r0 r1 r2 r3 S:=by
 have h:=ZaH (n:=S.length) hc.len bt_gt (f:=fun k=>Zz (cvS r0 r1 r2 r3 (S.map Ze)) k S.length==true) (g:=Z20 r0 r1 r2 r3 S) fun k hk=>by
  rw[Z6X hc hk]
  cases Z20 r0 r1 r2 r3 S (ZN k)<;>rfl
 refine Eq.trans h ?_
 rw[Zcy,chooseR_head,ZaG,List.foldl_cons,List.foldl_cons]
 have e:Z20 r0 r1 r2 r3 S []=true:=rfl
 simp only[e,Bool.not_false,Bool.true_or,Bool.and_self,if_true,List.length_nil,Nat.lt_irrefl,decide_false,Bool.false_and,Bool.false_eq_true,if_false]
 generalize (chooseR (upL S.length)).tail=cs
 have key:∀(cs:List (List Int))(b:List Int),(cs.foldl (fun(b:List Int×Bool) l=>if(!b.2||decide ((b.1.length:Int)<(l.length:Int)))&&Z20 r0 r1 r2 r3 S l then(l,true) else b) (b,true)).1=cs.foldl (fun b l=>if decide (b.length<l.length)&&Z20 r0 r1 r2 r3 S l then l else b) b:=by
  intro cs
  induction cs with
  |nil=>intro b;rfl
  |cons l cs ih=>
   intro b
   rw[List.foldl_cons,List.foldl_cons]
   have e:((!true||decide ((b.length:Int)<(l.length:Int)))&&Z20 r0 r1 r2 r3 S l)=(decide (b.length<l.length)&&Z20 r0 r1 r2 r3 S l):=by simp
   show(cs.foldl _ (if((!true||decide ((b.length:Int)<(l.length:Int)))&&Z20 r0 r1 r2 r3 S l)=true then(l,true) else(b,true))).1=_
   rw[e]
   by_cases hh:(decide (b.length<l.length)&&Z20 r0 r1 r2 r3 S l)=true
   ·rw[if_pos hh,if_pos hh];exact ih l
   ·rw[if_neg hh,if_neg hh];exact ih b
 exact key cs []
end Go.Proofs.Tryq
namespace Go.Proofs.Tryq
set_option maxRecDepth 100000
set_option maxHeartbeats 4000000
open Go Go.Nk Go.RowKit
def hitsF(r0 r1 r2 r3:Int)(S:List Rs)(a m k:Int):Int:=firstV (Zy r0 r1 r2 r3 S [Zv a,Z87 m k])
def hitV(x:Int×Int)(m k:Int):Int:=if max x.1 (wrap64 (m - k))=x.1∧min x.2 (wrap64 (m+k))=x.2 then 1 else if min x.2 (wrap64 (m+k))<max x.1 (wrap64 (m - k)) then 2 else 0
def Z6c(r0 r1 r2 r3:Int)(S:List Rs)(a m k:Int):Int:=if hitsF r0 r1 r2 r3 S a m k=0 then hitV (Z4L r0 r1 r2 r3 S a) m k else 0
theorem Zfl{w:World}{c b i j:Nat}{u v:Value}{o:Obj}(hn:c≠b)(h:w.heap[c]? =some o):((w.setCell ⟨b,i,none⟩ u).setCell ⟨b,j,none⟩ v).heap[c]? =some o:=
 (set_ne (w:=w.setCell _ _) hn _).trans ((set_ne hn _).trans h)
theorem Zc7(r0 r1 r2 r3:Int)(base:Option Addr)(n cap:Nat)(w:World)(at' mark within:Int)(S:List Rs)(hlen:S.length=n)(hS:RawS w base S)(hmo:Most w):
 Calls prog 53 #[.agg #[.int .i64 r0,.int .i64 r1,.int .i64 r2,.int .i64 r3,.slice base n cap],.int .i64 at',.int .i64 mark,.int .i64 within] w fun e w'=>
  e= .returned (.tuple #[.int .i64 (Z6c r0 r1 r2 r3 S at' mark within),.int .i64 (hitsF r0 r1 r2 r3 S at' mark within)])∧Ext w w':=by
 go_enter func53,ntmps53
 go_wp2_with fail
 have hE1:Ext w _:=(((Ext.rfl' w).alloc (.cells #[.int .i64 r0,.int .i64 r1,.int .i64 r2,.int .i64 r3,.slice base n cap] 70)).alloc (.cells #[.int .i64 mark] 3)).alloc (.cells #[.int .i64 within] 3)
 have hb:(((w.alloc (.cells #[.int .i64 r0,.int .i64 r1,.int .i64 r2,.int .i64 r3,.slice base n cap] 70)).alloc (.cells #[.int .i64 mark] 3)).alloc (.cells #[.int .i64 within] 3)).heap[w.heap.size]? =some (.cells #[.int .i64 r0,.int .i64 r1,.int .i64 r2,.int .i64 r3,.slice base n cap] 70):=by
  simp only[Z3,Z2];rw[if_neg (by omega),if_neg (by omega),if_pos trivial]
 have hZ:(((w.alloc (.cells #[.int .i64 r0,.int .i64 r1,.int .i64 r2,.int .i64 r3,.slice base n cap] 70)).alloc (.cells #[.int .i64 mark] 3)).alloc (.cells #[.int .i64 within] 3)).heap[w.heap.size+1]? =some (.cells #[.int .i64 mark] 3):=by
  simp only[Z3,Z2];rw[if_neg (by omega),if_pos trivial]
 have hY:(((w.alloc (.cells #[.int .i64 r0,.int .i64 r1,.int .i64 r2,.int .i64 r3,.slice base n cap] 70)).alloc (.cells #[.int .i64 mark] 3)).alloc (.cells #[.int .i64 within] 3)).heap[w.heap.size+1+1]? =some (.cells #[.int .i64 within] 3):=by
  simp only[Z3,Z2];rw[if_pos trivial]
 generalize World.alloc _ _=w1 at hE1 hb hZ hY⊢
 have hX:=Ext.rfl' w1
 have q0:=Z0 hb 0;have q1:=Z0 hb 1;have q2:=Z0 hb 2;have q3:=Z0 hb 3;have q4:=Z0 hb 4
 simp only[List.getElem?_toArray,List.getElem?_cons_zero,List.getElem?_cons_succ] at q0 q1 q2 q3 q4
 have g0:=Zet q0;have g1:=Zet q1;have g2:=Zet q2;have g3:=Zet q3;have g4:=Zet q4
 have r1':w1.cell? ⟨w.heap.size+1,0,none⟩=some (.int .i64 mark):=by rw[Z0 hZ];rfl
 have r2':w1.cell? ⟨w.heap.size+1+1,0,none⟩=some (.int .i64 within):=by rw[Z0 hY];rfl
 refine Zfn 10 9 10 [0,1,2,3,4,5,6,7] (.cells #[.int .i64 0,.int .i64 0,.int .i64 0,.int .i64 0,.slice none 0 0,.slice none 0 0] 146) (by kernel_rfl) rfl (by kernel_rfl) rfl rfl (fun a W=>by simp[go_sem,execOp,Act.eval]) ?_
 refine Zfj [0,1,3] (by kernel_rfl) rfl rfl (by kernel_rfl) ?_
 simp only[ZeD,List.getElem?_cons_succ,List.getElem?_cons_zero,List.cons_append,List.nil_append]
 repeat (go_big_quiet_step (fail))
 refine wpQuiet_nil ?_
 refine Zfk 2 rfl (by kernel_rfl) rfl (fun W hW=>Zfo (f:=104) (args:= #[.int .i64 at']) (by simp[go_sem,execOp,Act.eval]) ?_)
 refine(Z9v at' W).mono ?_
 rintro e V0 ⟨p0,rfl,hF,hp0⟩
 refine⟨.func (.func 151) #[] #[.pointer (some ⟨p0,0,none⟩)],rfl,hF,?_⟩
 replace hX:=hX.trans (hW.trans hF)
 clear hF hW
 go_simp
 refine Zfk 4 rfl (by kernel_rfl) rfl (fun W hW=>Zf3 ⟨.slice (some ⟨W.heap.size,0,none⟩) 2 2,W.alloc (.cells #[.func (.func 151) #[] #[.pointer (some ⟨p0,0,none⟩)],.func (.func 113) #[] #[.pointer (some ⟨w.heap.size+1,0,none⟩),.pointer (some ⟨w.heap.size+1+1,0,none⟩)]] 127),by simp[go_sem,execOp,Act.eval],(Ext.rfl' W).alloc _,?_⟩)
 have hck:=Z30 W #[.func (.func 151) #[] #[.pointer (some ⟨p0,0,none⟩)],.func (.func 113) #[] #[.pointer (some ⟨w.heap.size+1,0,none⟩),.pointer (some ⟨w.heap.size+1+1,0,none⟩)]] [(151,#[],#[.pointer (some ⟨p0,0,none⟩)]),(113,#[],#[.pointer (some ⟨w.heap.size+1,0,none⟩),.pointer (some ⟨w.heap.size+1+1,0,none⟩)])] W.heap.size rfl rfl
 have hF:=(hW.alloc (.cells #[.func (.func 151) #[] #[.pointer (some ⟨p0,0,none⟩)],.func (.func 113) #[] #[.pointer (some ⟨w.heap.size+1,0,none⟩),.pointer (some ⟨w.heap.size+1+1,0,none⟩)]] 127))
 replace hX:=hX.trans hF
 replace hp0:=hF.cellS hp0
 clear hF hW
 generalize W.heap.size=B2 at hck⊢
 generalize World.alloc W _=V9 at*
 go_simp
 refine Zfk 5 rfl (by kernel_rfl) rfl (fun W hW=>Zfo (f:=103) (args:= #[.agg #[.int .i64 r0,.int .i64 r1,.int .i64 r2,.int .i64 r3,.slice base n cap],.slice (some ⟨B2,0,none⟩) 2 2]) (by simp[go_sem,execOp,Act.eval]) ?_)
 refine(Z4K r0 r1 r2 r3 base n cap W 2 B2 (by omega) [(151,#[],#[.pointer (some ⟨p0,0,none⟩)]),(113,#[],#[.pointer (some ⟨w.heap.size+1,0,none⟩),.pointer (some ⟨w.heap.size+1+1,0,none⟩)])] [Zv at',Z87 mark within] rfl rfl (fun j x hj=>hW.cellS (hck j x hj)) (by intro x hx args w';simp only[List.mem_cons,List.not_mem_nil,or_false] at hx;rcases hx with rfl|rfl<;>simp[go_sem]) (by
       intro j x r hj hr w' hw'
       match j,hj,hr with
       |0,hj,hr=>
        obtain rfl:=Option.some.inj hj
        obtain rfl:=Option.some.inj hr
        exact Z3x p0 at' w' ((hW.trans hw').cellS hp0)
       |1,hj,hr=>
        obtain rfl:=Option.some.inj hj
        obtain rfl:=Option.some.inj hr
        exact ZcY _ _ mark within w' ((hX.trans (hW.trans hw')).cellS r1') ((hX.trans (hW.trans hw')).cellS r2')) S hlen (hS.ext (hE1.trans (hX.trans hW))) (hmo.ext (hE1.trans (hX.trans hW)))).mono ?_
 rintro e V10 ⟨k0,k1,k2,k3,b4,n4,c4,b5,n5,c5,rfl,hF,hask0⟩
 refine⟨.tuple #[.agg #[.int .i64 k0,.int .i64 k1,.int .i64 k2,.int .i64 k3,.slice b4 n4 c4,.slice b5 n5 c5],.int .i64 (firstV (Zy r0 r1 r2 r3 S [Zv at',Z87 mark within]))],rfl,hF,?_⟩
 replace hX:=hX.trans (hW.trans hF)
 have hask:Askd r0 r1 r2 r3 base n cap S [Zv at',Z87 mark within] k0 k1 k2 k3 b4 n4 c4 b5 n5 c5 V10:=fun h=>by obtain⟨B,p,h0,h1,h2,h3,h4,h5,h6,h7,h8,h9,hC,_⟩:=hask0 h;exact⟨B,p,h0,h1,h2,h3,h4,h5,h6,h7,h8,h9,hC⟩
 clear hF hW hask0 hck hp0
 go_simp
 refine Zfj [6,7,8] (by kernel_rfl) rfl rfl (by kernel_rfl) ?_
 simp only[ZeD,List.getElem?_cons_succ,List.getElem?_cons_zero,List.cons_append,List.nil_append]
 repeat (go_big_quiet_step (fail))
 refine wpQuiet_nil ?_
 refine Zfq (by kernel_rfl) (fun W hW b hA hbl hbo=> ?_)
 have hA0:w1.heap.size≤b:=hA.1.1.1
 replace hX:=hX.trans hW
 replace hask:=hask.ext hW
 clear r1' r2'
 clear hW
 go_simp
 refine Zfp 2 (by kernel_rfl) (fun W hW=> ?_)
 simp only[List.drop_succ_cons,List.drop_zero]
 replace hX:=hX.trans hW
 replace hask:=hask.ext hW
 replace hbo:=hW.get hbo
 have hbw:w.heap.size≤b:=by have h1:=hA0;have h2:=hE1.size;omega
 have hZW:=hX.get hZ
 have hZn:w.heap.size+1≠b:=by have h1:=hA0;have h2:=Z5 hZ;omega
 have hYW:=hX.get hY
 have hYn:w.heap.size+1+1≠b:=by have h1:=hA0;have h2:=Z5 hY;omega
 have hEW:=hE1.trans hX
 clear hA hA0 hbl hW hX hE1 hb q0 q1 q2 q3 q4 g0 g1 g2 g3 g4 hZ hY
 have x0:=Z8 hbo 0;have x1:=Z8 hbo 1;have x2:=Z8 hbo 2;have x3:=Z8 hbo 3;have x4:=Z8 hbo 4;have x5:=Z8 hbo 5
 have y0:=Z0 hbo 0;have y1:=Z0 hbo 1;have y2:=Z0 hbo 2;have y3:=Z0 hbo 3;have y4:=Z0 hbo 4;have y5:=Z0 hbo 5
 simp only[List.getElem?_toArray,List.getElem?_cons_zero,List.getElem?_cons_succ] at y0 y1 y2 y3 y4 y5
 have hst:=Z0K hbo (.int .i64 k0) (.int .i64 k1) (.int .i64 k2) (.int .i64 k3) (.slice b4 n4 c4) (.slice b5 n5 c5)
 obtain⟨hX,hEX⟩:=hst
 replace hask:=hask.stored hbo hEX
 replace hEW:=hEX.before hEW hbw
 have hZX:=hEX.get hZn hZW
 have hYX:=hEX.get hYn hYW
 go_wp2_with fail
 generalize ((((((W.setCell ⟨b,0,none⟩ (.int .i64 k0)).setCell ⟨b,1,none⟩ (.int .i64 k1)).setCell ⟨b,2,none⟩ (.int .i64 k2)).setCell ⟨b,3,none⟩ (.int .i64 k3)).setCell ⟨b,4,none⟩ (.slice b4 n4 c4)).setCell ⟨b,5,none⟩ (.slice b5 n5 c5))=X at hX hask hEW hEX hZX hYX⊢
 clear hEX hbo hbw x0 x1 x2 x3 x4 x5 y0 y1 y2 y3 y4 y5 hZW hYW
 refine Zfm ?_
 go_wp2_with fail
 ·have hne:(firstV (Zy r0 r1 r2 r3 S [Zv at',Z87 mark within]) !=0)=true:=by assumption
  have hm0:¬hitsF r0 r1 r2 r3 S at' mark within=0:=by simpa[hitsF] using hne
  go_ret2
  exact⟨by rw[Z6c,if_neg hm0];rfl,hEW⟩
 ·have heq:(firstV (Zy r0 r1 r2 r3 S [Zv at',Z87 mark within]) !=0)=false:=by assumption
  have hm0:firstV (Zy r0 r1 r2 r3 S [Zv at',Z87 mark within])=0:=by simpa using heq
  obtain⟨hcf,hrs,hnil,hag⟩:=Z11 hm0
  obtain⟨_,h8,_⟩:=Z0i hcf
  have hfar:=Z0N (hrs (Zv at') (by simp))
  obtain⟨d,rfl⟩:=Int.eq_ofNat_of_zero_le hfar.1
  have hd90:d≤90:=by omega
  obtain⟨B,p',e0,e1,e2,e3,e4,e5,e6,e7,e8,e9,hC⟩:=hask hm0
  subst k0 k1 k2 k3 b4 n4 c4 b5 n5 c5
  have hn8:n≤8:=by omega
  have hev:=fun v w'=>Z08 r0 r1 r2 r3 base n cap v hn8 w'
  have hat:=fun w' hm' hC'=>Z2Y r0 r1 r2 r3 (.slice base n cap) B n d (2 ^ n - 1) p' (cvS r0 r1 r2 r3 (S.map Ze)) hn8 hd90 (Z2Z hn8) w' hm' hC'
  have HV:Hid (Z4L r0 r1 r2 r3 S d=atF (cvS r0 r1 r2 r3 (S.map Ze)) (2 ^ n - 1) d n):=by
   show _=_
   rw[Z4L,Int.toNat_natCast,hlen]
  have hm1:Hid (hitsF r0 r1 r2 r3 S d mark within=0):=hm0
  have hmW:=hmo.ext hEW
  clear hask hcf hrs hnil hag heq hm0 hfar
  generalize (2:Int) ^ n - 1=st at hev hat HV
  generalize atF (cvS r0 r1 r2 r3 (S.map Ze)) st d n=V at hat HV
  obtain⟨va,vb⟩:=V
  have x0:=Z0 hX 0;have x1:=Z0 hX 1;have x2:=Z0 hX 2;have x3:=Z0 hX 3;have x4:=Z0 hX 4;have x5:=Z0 hX 5
  simp only[List.getElem?_toArray,List.getElem?_cons_zero,List.getElem?_cons_succ] at x0 x1 x2 x3 x4 x5
  have c0:=Zet x0;have c1:=Zet x1;have c2:=Zet x2;have c3:=Zet x3;have c4:=Zet x4;have c5:=Zet x5
  refine Zfn 6 5 12 [0,1,2,3,4] (.cells #[.int .i64 0,.int .i64 0] 48) (by kernel_rfl) rfl (by kernel_rfl) rfl rfl (fun a W=>by simp[go_sem,execOp,Act.eval]) ?_
  refine Zfj [0,1,3] (by kernel_rfl) rfl rfl (by kernel_rfl) ?_
  simp only[ZeD,List.getElem?_cons_succ,List.getElem?_cons_zero,List.cons_append,List.nil_append]
  repeat (go_big_quiet_step (fail))
  refine wpQuiet_nil ?_
  refine Zfr 2 (f:=106) (args:= #[.agg #[.int .i64 r0,.int .i64 r1,.int .i64 r2,.int .i64 r3,.slice base n cap,.slice (some ⟨B,0,none⟩) n n]]) (v:= .int .i64 st) (by kernel_rfl) rfl rfl rfl (by kernel_rfl) rfl (fun W=>by simp[go_sem,execOp,Act.eval]) (fun W _=>hev _ W) ?_
  go_simp
  refine Zfr 4 (f:=105) (args:= #[.agg #[.int .i64 r0,.int .i64 r1,.int .i64 r2,.int .i64 r3,.slice base n cap,.slice (some ⟨B,0,none⟩) n n],.int .i64 st,.int .i64 d]) (v:= .agg #[.int .i64 va,.int .i64 vb]) (by kernel_rfl) rfl rfl rfl (by kernel_rfl) rfl (fun W=>by simp[go_sem,execOp,Act.eval]) (fun W hW=>hat W (hmW.ext hW) (hC.ext hW)) ?_
  go_simp
  refine Zfq (by kernel_rfl) (fun W hW b hA hbl hbo=> ?_)
  obtain⟨bx,rfl⟩:∃bx,bx=b:=⟨_,rfl⟩
  have hE4:=hW
  clear hW
  go_simp
  refine Zfp 1 (by kernel_rfl) (fun W hW=> ?_)
  simp only[List.drop_succ_cons,List.drop_zero]
  replace hbo:=hW.get hbo
  have hEW2:=(hEW.trans hE4).trans hW
  have hbw:w.heap.size≤bx:=by have h1:=hA;have h2:=hEW.size;omega
  have hxx:=set_pair hbo (.int .i64 va) (.int .i64 vb)
  have hEV:=(hEW2.setCell ⟨bx,0,none⟩ (.int .i64 va) hbw).setCell ⟨bx,1,none⟩ (.int .i64 vb) hbw
  have g:=Zc hbo;have g0:=g.1;have g1:=g.2.1;have g2:=g.2.2.1;have g3:=g.2.2.2
  have hZY:=Zfl (w:=W) (b:=bx) (i:=0) (j:=1) (u:= .int .i64 va) (v:= .int .i64 vb) (by have h1:=Z5 hZX;omega) (hW.get (hE4.get hZX))
  have hYY:=Zfl (w:=W) (b:=bx) (i:=0) (j:=1) (u:= .int .i64 va) (v:= .int .i64 vb) (by have h1:=Z5 hYX;omega) (hW.get (hE4.get hYX))
  clear hZX hYX
  clear g hEW2 hEW hW hE4 hbw hA hbl hmW hev hat hX x0 x1 x2 x3 x4 x5 c0 c1 c2 c3 c4 c5 hC
  go_wp2_with fail
  generalize (W.setCell ⟨bx,0,none⟩ (.int .i64 va)).setCell ⟨bx,1,none⟩ (.int .i64 vb)=Y at*
  clear g0 g1 g2 g3 hbo
  refine Zfm ?_
  have g:=Zc hxx;have g0:=g.1;have g1:=g.2.1;have g2:=g.2.2.1;have g3:=g.2.2.2
  have hm:=Z0 hZY 0;have hw:=Z0 hYY 0
  simp only[List.getElem?_toArray,List.getElem?_cons_zero,List.getElem?_cons_succ] at hm hw
  clear hZY hYY
  go_wp2_with (first|(go_at_call 114;refine(Z7i _ _ _ _ _).mono ?_;rintro e w9 ⟨rfl,hE9⟩;have hx9:=Zc (hE9.get hxx);have j0:=hx9.1;have j1:=hx9.2.1;have hl9:bx<w9.heap.size:=Z5 (hE9.get hxx);have hp9:∀(o:Obj)(i:Nat),(w9.alloc o).cell? ⟨bx,i,none⟩=w9.cell? ⟨bx,i,none⟩:=fun o i=>World.cell?_alloc_lt _ _ _ hl9))
  all_goals
   go_ret2
   refine⟨?_,(hEV.trans hE9).alloc _⟩
   rw[Z6c,if_pos hm1.out,hm1.out,HV.out]
   simp at*
   rw[hitV]
   first|rw[if_pos (by omega)]|(rw[if_neg (by omega)];first|rw[if_pos (by omega)]|rw[if_neg (by omega)])
end Go.Proofs.Tryq
