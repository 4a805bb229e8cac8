import Derived.Test.YtedkbdkbbnemlaaGreatDoorNk28
set_option linter.all false
namespace Go.Proofs.Tryq
open Go Go.Nk Go.RowKit
set_option linter.all false
def Zj8(r0 r1 r2 r3:Int)(S:List Rs):Bool:=Z20 r0 r1 r2 r3 S (upL S.length)
def ZR(S:List Rs)(l:List Int):List Rs:=l.filterMap fun i=>S[i.toNat]?
theorem somS_mem{S:List Rs}{l:List Int}{s:Rs}:s∈ZR S l↔∃i∈l,S[i.toNat]? =some s:=List.mem_filterMap
theorem Zj2{S:List Rs}:∀{l:List Int},(∀i∈l,0≤i∧i<S.length)→(ZR S l).length=l.length
 |[],_=>rfl
 |i::l,h=>by
  have h0:=h i (by simp)
  obtain⟨s,hs⟩:∃s,S[i.toNat]? =some s:=⟨_,List.getElem?_eq_getElem (by omega)⟩
  have e:ZR S (i::l)=s::ZR S l:=List.filterMap_cons_some (f:=fun(i:Int)=>S[i.toNat]?) hs
  rw[e,List.length_cons,List.length_cons]
  congr 1
  exact Zj2 fun j hj=>h j (by simp[hj])
theorem Zjl{S:List Rs}{l:List Int}{i:Int}{s:Rs}(h:S[i.toNat]? =some s):ZR S (l++[i])=ZR S l++[s]:=by
 rw[ZR,List.filterMap_append,ZR]
 congr 1
 exact List.filterMap_cons_some (f:=fun(i:Int)=>S[i.toNat]?) h
theorem Zjf{x y:Int}(hx:x=0)(hy:y=0):firstV [x,y]=0:=by
 rw[firstV,if_pos hx,firstV,if_pos hy];rfl
theorem Zjm{r0 r1 r2 r3:Int}{S T:List Rs}(h:ZC r0 r1 r2 r3 S=0)(hl:T.length≤8)(hT:∀t∈T,t∈S):ZC r0 r1 r2 r3 T=0:=by
 obtain⟨h1,_,h3⟩:=Z0i h
 refine Zjf h1 ?_
 rw[Z23,if_neg (by omega),if_pos]
 rw[List.all_eq_true]
 exact fun t ht=>h3 t (hT t ht)
theorem Zjn{r0 r1 r2 r3:Int}{S:List Rs}(hc:CardOk r0 r1 r2 r3 S):Zj8 r0 r1 r2 r3 S=true↔∀s∈S,∀t∈S,Z6W r0 r1 r2 r3 s t:=by
 rw[Zj8,Z8D hc (fun p hp=>Zjk.1 hp)]
 constructor
 ·intro h s hs t ht
  obtain⟨i,hi⟩:=List.mem_iff_getElem?.1 hs
  obtain⟨j,hj⟩:=List.mem_iff_getElem?.1 ht
  have h1:=(List.getElem?_eq_some_iff.1 hi).1
  have h2:=(List.getElem?_eq_some_iff.1 hj).1
  exact h i (Zjk.2 (by omega)) j (Zjk.2 (by omega)) s t (by simpa using hi) (by simpa using hj)
 ·intro h i _ j _ s t hs ht
  exact h s (List.mem_of_getElem? hs) t (List.mem_of_getElem? ht)
section
variable {r0 r1 r2 r3:Int} {S:List Rs} (hc:ZC r0 r1 r2 r3 S=0)
include hc
theorem Zjc{l:List Int}(hl:∀i∈l,0≤i∧i<S.length)(h8:l.length≤8):ZC r0 r1 r2 r3 (ZR S l)=0:=
 Zjm hc (by rw[Zj2 hl];exact h8) fun t ht=>by obtain⟨i,_,hi⟩:=somS_mem.1 ht;exact List.mem_of_getElem? hi
theorem Zjq{l:List Int}(hl:∀i∈l,0≤i∧i<S.length)(h8:l.length≤8):Zj8 r0 r1 r2 r3 (ZR S l)=Z20 r0 r1 r2 r3 S l:=by
 rw[Bool.eq_iff_iff,Zjn (Zav (Zjc hc hl h8)),Z8D (Zav hc) hl]
 constructor
 ·intro h i hi j hj s t hs ht
  exact h s (somS_mem.2 ⟨i,hi,hs⟩) t (somS_mem.2 ⟨j,hj,ht⟩)
 ·intro h s hs t ht
  obtain⟨i,hi,hs⟩:=somS_mem.1 hs
  obtain⟨j,hj,ht⟩:=somS_mem.1 ht
  exact h i hi j hj s t hs ht
theorem Zjx{s:Rs}(hs:s∈S):Z6W r0 r1 r2 r3 s s:=(Zdy (Zav hc) hs ((Zav hc).ok s hs).1).2.1
theorem Zj3{l k:List Int}(hl:∀i∈l,0≤i∧i<S.length)(hk:∀i∈k,i∈l)(h:Z20 r0 r1 r2 r3 S l=true):Z20 r0 r1 r2 r3 S k=true:=by
 rw[Z8D (Zav hc) (fun p hp=>hl p (hk p hp))]
 rw[Z8D (Zav hc) hl] at h
 exact fun i hi j hj s t hs ht=>h i (hk i hi) j (hk j hj) s t hs ht
theorem Zj4{l:List Int}(hl:∀i∈l,0≤i∧i<S.length)(h:Z20 r0 r1 r2 r3 S l=false):∃i∈l,∃k∈l,i<k∧Z20 r0 r1 r2 r3 S [i,k]=false:=by
 rw[←Bool.not_eq_true,Z8D (Zav hc) hl] at h
 simp only[Classical.not_forall] at h
 obtain⟨i,hi,j,hj,s,t,hs,ht,hn⟩:=h
 have hi0:=hl i hi
 have hj0:=hl j hj
 have hne:i≠j:=by
  rintro rfl
  rw[hs] at ht
  injection ht with ht;subst ht
  exact hn (Zjx hc (List.mem_of_getElem? hs))
 have key:∀x y,(x=i∧y=j∨x=j∧y=i)→Z20 r0 r1 r2 r3 S [x,y]=false:=by
  intro x y hxy
  have hin:∀p∈[x,y],0≤p∧p<S.length:=by
   intro p hp
   simp only[List.mem_cons,List.not_mem_nil,or_false] at hp
   rcases hxy with⟨rfl,rfl⟩|⟨rfl,rfl⟩<;>rcases hp with rfl|rfl<;>assumption
  rw[←Bool.not_eq_true,Z8D (Zav hc) hin]
  intro hall
  exact hn (hall i (by rcases hxy with⟨rfl,rfl⟩|⟨rfl,rfl⟩<;>simp) j (by rcases hxy with⟨rfl,rfl⟩|⟨rfl,rfl⟩<;>simp) s t hs ht)
 by_cases hij:i<j
 ·exact⟨i,hi,j,hj,hij,key i j (.inl ⟨rfl,rfl⟩)⟩
 ·exact⟨j,hj,i,hi,by omega,key j i (.inr ⟨rfl,rfl⟩)⟩
omit hc
theorem fitsR_nil:Z20 r0 r1 r2 r3 S []=true:=rfl
theorem Zj9(n:Nat):(upL n).Pairwise (·<·):=ZgK n
theorem Zj5(n:Nat):(upL n).length=n:=by simp[upL]
theorem lx_less:∀{a b:List Int},Lx a b→a.length=b.length→lessL b a=false
 |a,[],h,_=>by cases a<;>exact h.elim
 |[],_::_,_,h=>by simp at h
 |x::t,y::u,h,hl=>by
  rcases h with h|⟨rfl,h⟩
  ·rw[lessL,if_neg (by omega)];exact decide_eq_false (by omega)
  ·rw[ZgP];exact lx_less h (by simpa using hl)
theorem less_self:∀(l:List Int),lessL l l=false
 |[]=>rfl
 |x::l=>by rw[ZgP];exact less_self l
theorem Zjd{α:Type}[DecidableEq α]:∀{P Q:List α},P.Nodup→(∀x∈P,x∈Q)→P.length≤Q.length
 |[],_,_,_=>Nat.zero_le _
 |x::P,Q,hd,h=>by
  have hx:=h x (by simp)
  have hd2:=List.nodup_cons.1 hd
  have:=Zjd (Q:=Q.erase x) hd2.2 fun y hy=>(List.mem_erase_of_ne (by rintro rfl;exact hd2.1 hy)).2 (h y (by simp[hy]))
  rw[List.length_erase_of_mem hx] at this
  have:=List.length_pos_of_mem hx
  simp only[List.length_cons]
  omega
theorem eq_of_asc:∀{l k:List Int},l.Pairwise (·<·)→k.Pairwise (·<·)→(∀x,x∈l↔x∈k)→l=k
 |[],[],_,_,_=>rfl
 |[],y::k,_,_,h=>by have:=(h y).2 (by simp);simp at this
 |x::l,[],_,_,h=>by have:=(h x).1 (by simp);simp at this
 |x::l,y::k,hl,hk,h=>by
  have h1:=List.pairwise_cons.1 hl
  have h2:=List.pairwise_cons.1 hk
  have a1:=List.mem_cons.1 ((h x).1 (by simp))
  have a2:=List.mem_cons.1 ((h y).2 (by simp))
  obtain rfl:x=y:=by
   rcases a1 with a1|a1
   ·exact a1
   ·rcases a2 with a2|a2
    ·exact a2.symm
    ·have:=h2.1 x a1;have:=h1.1 y a2;omega
  congr 1
  refine eq_of_asc h1.2 h2.2 fun z=> ?_
  have hz:=h z
  rw[List.mem_cons,List.mem_cons] at hz
  constructor
  ·intro hm
   have:=h1.1 z hm
   rcases hz.1 (.inr hm) with e|e
   ·omega
   ·exact e
  ·intro hm
   have:=h2.1 z hm
   rcases hz.2 (.inr hm) with e|e
   ·omega
   ·exact e
theorem ZiY{n:Nat}{l:List Int}(h:l∈chooseR (upL n)):l.Pairwise (·<·)∧(∀i∈l,0≤i∧i<n)∧l.length≤n∧Zq n l=0:=by
 have hs:=(chooseR_iff _ _).1 h
 have h1:=(Zj9 n).sublist hs
 have h2:∀i∈l,0≤i∧i<n:=fun i hi=>Zjk.1 (hs.subset hi)
 exact⟨h1,h2,by have:=hs.length_le;rwa [Zj5] at this,ZeE h1 h2⟩
theorem sub_up:∀{n:Nat}{l:List Int},l.Pairwise (·<·)→(∀i∈l,0≤i∧i<n)→l∈chooseR (upL n):=by
 intro n l h1 h2
 rw[chooseR_iff]
 have e:l=(upL n).filter fun i=>decide (i∈l):=by
  have hp:=(Zj9 n).sublist (List.filter_sublist (p:=fun i=>decide (i∈l)))
  refine eq_of_asc h1 hp fun x=> ?_
  rw[List.mem_filter,Zjk]
  constructor
  ·intro hx;exact⟨h2 x hx,decide_eq_true hx⟩
  ·intro hx;simpa using hx.2
 rw[e]
 exact List.filter_sublist
end
structure Clsh(r0 r1 r2 r3:Int)(S:List Rs)(C T:List Int):Prop where
 ck:C∈chooseR (upL S.length)
 tk:T∈chooseR (upL S.length)
 fit:Z20 r0 r1 r2 r3 S T=true
 none_:Zj8 r0 r1 r2 r3 S=true→C=[]
 two:Zj8 r0 r1 r2 r3 S=false→C.length=2∧Z20 r0 r1 r2 r3 S C=false
 first:∀l,l∈chooseR (upL S.length)→l.length=2→Z20 r0 r1 r2 r3 S l=false→lessL l C=false
 most:∀l,l∈chooseR (upL S.length)→Z20 r0 r1 r2 r3 S l=true→l.length<T.length∨(l.length=T.length∧lessL l T=false)
theorem clsh{r0 r1 r2 r3:Int}{S:List Rs}(hc:ZC r0 r1 r2 r3 S=0):Clsh r0 r1 r2 r3 S (Z7L r0 r1 r2 r3 S) (Z7M r0 r1 r2 r3 S):=by
 have hok:=Zav hc
 have e1:Z7L r0 r1 r2 r3 S=(ZaG (fun l=> !Z20 r0 r1 r2 r3 S l) (fun a b=>decide (a<b)) ([],false) (chooseR (upL S.length))).1:=Zc5 hok
 have e2:Z7M r0 r1 r2 r3 S=(ZaG (Z20 r0 r1 r2 r3 S) (fun a b=>decide (b<a)) ([],false) (chooseR (upL S.length))).1:=
  ZaH (n:=S.length) hok.len bt_gt (f:=fun k=>Zz (cvS r0 r1 r2 r3 (S.map Ze)) k S.length==true) (g:=Z20 r0 r1 r2 r3 S) fun k hk=>by
   rw[Z6X hok hk]
   cases Z20 r0 r1 r2 r3 S (ZN k)<;>rfl
 rw[e1,e2]
 clear e1 e2
 have hz:Zdz (fun l=> !Z20 r0 r1 r2 r3 S l) (fun a b=>decide (a<b)) [] ([],false):=⟨fun _=>⟨rfl,fun l hl=>by cases hl⟩,fun h=>by cases h⟩
 have hz':Zdz (Z20 r0 r1 r2 r3 S) (fun a b=>decide (b<a)) [] ([],false):=⟨fun _=>⟨rfl,fun l hl=>by cases hl⟩,fun h=>by cases h⟩
 have k1:=Z4q bt_lt (chooseR (upL S.length)) [] ([],false) (by rw[List.nil_append];exact chooseR_lx _ (Zj9 _)) hz
 have k2:=Z4q bt_gt (chooseR (upL S.length)) [] ([],false) (by rw[List.nil_append];exact chooseR_lx _ (Zj9 _)) hz'
 rw[List.nil_append] at k1 k2
 generalize ZaG (fun l=> !Z20 r0 r1 r2 r3 S l) (fun a b=>decide (a<b)) ([],false) (chooseR (upL S.length))=P at k1⊢
 generalize ZaG (Z20 r0 r1 r2 r3 S) (fun a b=>decide (b<a)) ([],false) (chooseR (upL S.length))=Q at k2⊢
 clear hz hz'
 have hnil:([]:List Int)∈chooseR (upL S.length):=(chooseR_iff _ _).2 (List.nil_sublist _)
 have hall:upL S.length∈chooseR (upL S.length):=(chooseR_iff _ _).2 (List.Sublist.refl _)
 unfold Zdz at k1 k2
 dsimp only at k1 k2
 obtain⟨c1,c2⟩:=k1
 obtain⟨t1,t2⟩:=k2
 have hQ:Q.2=true:=by
  cases h:Q.2 with
  |true=>rfl
  |false=>have:=(t1 h).2 [] hnil;rw[fitsR_nil] at this;cases this
 obtain⟨t3,t4,t5⟩:=t2 hQ
 have hin:∀p∈upL S.length,0≤p∧p<S.length:=fun p hp=>Zjk.1 hp
 have hP:P.2= !Zj8 r0 r1 r2 r3 S:=by
  cases h:P.2 with
  |false=>have:=(c1 h).2 _ hall;simp only[Bool.not_eq_false'] at this;rw[Zj8,this];rfl
  |true=>
   obtain⟨c3,c4,_⟩:=c2 h
   cases hf:Zj8 r0 r1 r2 r3 S with
   |false=>rfl
   |true=>
    have:=Zj3 hc hin (fun i hi=>((chooseR_iff _ _).1 c4).subset hi) hf
    rw[this] at c3;cases c3
 refine⟨?_,t4,t3,fun h=> ?_,fun h=> ?_,fun l hl h2 hf=> ?_,fun l hl hf=> ?_⟩
 ·cases h:P.2 with
  |false=>rw[(c1 h).1];exact hnil
  |true=>exact(c2 h).2.1
 ·rw[h] at hP;exact(c1 hP).1
 ·rw[h] at hP
  obtain⟨c3,c4,c5⟩:=c2 hP
  have hCf:Z20 r0 r1 r2 r3 S P.1=false:=by simpa using c3
  obtain⟨_,d2,_,_⟩:=ZiY c4
  obtain⟨i,hi,k,hk,hik,hf⟩:=Zj4 hc d2 hCf
  have hi0:=d2 i hi
  have hk0:=d2 k hk
  have hm:[i,k]∈chooseR (upL S.length):=sub_up (by simp[hik]) (by intro x hx;simp only[List.mem_cons,List.not_mem_nil,or_false] at hx;rcases hx with rfl|rfl<;>assumption)
  refine⟨?_,hCf⟩
  have hge:2≤P.1.length:=by
   have hsub:[i,k].Sublist P.1:=by
    have:[i,k]∈chooseR P.1:=by
     rw[chooseR_iff]
     obtain⟨d1,_,_,_⟩:=ZiY c4
     have e:[i,k]=P.1.filter fun x=>decide (x∈[i,k]):=by
      refine eq_of_asc (by simp[hik]) (d1.sublist List.filter_sublist) fun x=> ?_
      rw[List.mem_filter]
      constructor
      ·intro hx
       refine⟨?_,decide_eq_true hx⟩
       simp only[List.mem_cons,List.not_mem_nil,or_false] at hx
       rcases hx with rfl|rfl<;>assumption
      ·intro hx;simpa using hx.2
     rw[e]
     exact List.filter_sublist
    exact(chooseR_iff _ _).1 this
   exact hsub.length_le
  rcases c5 _ hm (by rw[hf];rfl) with h5|h5|⟨h5,_⟩
  ·rw[←h5];rfl
  ·have:=of_decide_eq_true h5;simp only[List.length_cons,List.length_nil] at this;omega
  ·exact h5
 ·have hP1:P.2=true:=by
   cases h:P.2 with
   |true=>rfl
   |false=>have:=(c1 h).2 l hl;rw[hf] at this;cases this
  obtain⟨c3,c4,c5⟩:=c2 hP1
  rcases c5 l hl (by rw[hf];rfl) with rfl|h5|⟨h5,h6⟩
  ·exact less_self _
  ·have h7:=of_decide_eq_true h5
   have hCf:Z20 r0 r1 r2 r3 S P.1=false:=by simpa using c3
   obtain⟨_,d2,_,_⟩:=ZiY c4
   obtain⟨i,hi,k,hk,hik,_⟩:=Zj4 hc d2 hCf
   exfalso
   rcases hP3:P.1 with _|⟨x,_|⟨y,q⟩⟩
   ·rw[hP3] at hi;cases hi
   ·rw[hP3] at hi hk
    simp only[List.mem_cons,List.not_mem_nil,or_false] at hi hk
    omega
   ·rw[hP3] at h7;simp only[List.length_cons] at h7;omega
  ·exact lx_less h6 h5
 ·rcases t5 l hl hf with rfl|h5|⟨h5,h6⟩
  ·exact .inr ⟨rfl,less_self _⟩
  ·have:=of_decide_eq_true h5;exact .inl (by omega)
  ·exact .inr ⟨h5.symm,lx_less h6 h5⟩
section
variable {r0 r1 r2 r3:Int} {S:List Rs} {C T:List Int} (hc:ZC r0 r1 r2 r3 S=0) (h:Clsh r0 r1 r2 r3 S C T)
include h
theorem Clsh.cl:Zj8 r0 r1 r2 r3 S=decide (C.length=0):=by
 cases hf:Zj8 r0 r1 r2 r3 S with
 |true=>rw[h.none_ hf];rfl
 |false=>rw[(h.two hf).1];rfl
theorem Clsh.ct:Zj8 r0 r1 r2 r3 S=decide (T.length=S.length):=by
 obtain⟨_,t2,t3,_⟩:=ZiY h.tk
 cases hf:Zj8 r0 r1 r2 r3 S with
 |true=>
  have:=h.most _ ((chooseR_iff _ _).2 (List.Sublist.refl _)) hf
  rw[Zj5] at this
  exact(decide_eq_true (by omega)).symm
 |false=>
  refine(decide_eq_false fun e=> ?_).symm
  have:T=upL S.length:=((chooseR_iff _ _).1 h.tk).eq_of_length (by rw[Zj5,e])
  have h1:=h.fit
  rw[this] at h1
  rw[Zj8] at hf
  rw[hf] at h1;cases h1
include hc
theorem Clsh.pairs:Zj8 r0 r1 r2 r3 S=true↔∀i k:Nat,i<k→k<S.length→Z20 r0 r1 r2 r3 S [(i:Int),(k:Int)]=true:=by
 have hin:∀p∈upL S.length,0≤p∧p<S.length:=fun p hp=>Zjk.1 hp
 constructor
 ·intro hf i k hik hk
  refine Zj3 hc hin (fun x hx=> ?_) hf
  simp only[List.mem_cons,List.not_mem_nil,or_false] at hx
  exact Zjk.2 (by omega)
 ·intro hp
  cases hf:Zj8 r0 r1 r2 r3 S with
  |true=>rfl
  |false=>
   obtain⟨i,hi,k,hk,hik,hn⟩:=Zj4 hc hin hf
   have hi0:=hin i hi
   have hk0:=hin k hk
   have:=hp i.toNat k.toNat (by omega) (by omega)
   rw[Int.toNat_of_nonneg hi0.1,Int.toNat_of_nonneg hk0.1,hn] at this
   cases this
theorem Clsh.more{i:Int}(hi:0≤i∧i<S.length)(hT:i∉T):Z20 r0 r1 r2 r3 S (T++[i])=false:=by
 obtain⟨t1,t2,t3,_⟩:=ZiY h.tk
 have hin:∀p∈T++[i],0≤p∧p<S.length:=by
  intro p hp
  rcases List.mem_append.1 hp with hp|hp
  ·exact t2 p hp
  ·rw[List.mem_singleton.1 hp];exact hi
 rw[←Bool.not_eq_true]
 intro hf
 have hk:((upL S.length).filter fun x=>decide (x∈T++[i]))∈chooseR (upL S.length):=(chooseR_iff _ _).2 List.filter_sublist
 have hmem:∀x,x∈((upL S.length).filter fun x=>decide (x∈T++[i]))↔x∈T++[i]:=by
  intro x
  rw[List.mem_filter,Zjk,decide_eq_true_eq]
  exact⟨fun hx=>hx.2,fun hx=>⟨hin x hx,hx⟩⟩
 have hf2:=Zj3 hc hin (fun x hx=>(hmem x).1 hx) hf
 have hlt:T.length<((upL S.length).filter fun x=>decide (x∈T++[i])).length:=by
  have:=Zjd (P:=T++[i]) (Q:=(upL S.length).filter fun x=>decide (x∈T++[i])) (by
   rw[List.nodup_append]
   refine⟨t1.imp fun hxy=>Int.ne_of_lt hxy,by simp,?_⟩
   intro a ha b hb
   rw[List.mem_singleton.1 hb]
   rintro rfl
   exact hT ha) fun x hx=>(hmem x).2 hx
  simp only[List.length_append,List.length_cons,List.length_nil] at this
  omega
 have:=h.most _ hk hf2
 omega
end
end Go.Proofs.Tryq
namespace Go.Proofs.Tryq
set_option maxRecDepth 100000
set_option maxHeartbeats 4000000
open Go Go.Nk Go.RowKit
set_option linter.all false
theorem OwnS.le{w:World}{b b2:Nat}{v:Value}{S:List Rs}(h:OwnS b w v S)(hb:b2≤b):OwnS b2 w v S:=Z05 h hb
theorem OwnS.raw{w:World}{b:Nat}{v:Value}{S:List Rs}(h:OwnS b w v S):∃bl cl,v= .slice bl S.length cl∧RawS w bl S∧S.length≤cl:=by
 by_cases h0:0<S.length
 ·obtain⟨g,cap,rfl,_,_,hr,hc,_⟩:=h.form h0
  exact⟨_,cap,rfl,hr,hc⟩
 ·have:S=[]:=List.eq_nil_of_length_eq_zero (by omega)
  subst this
  rcases h.2 with⟨rfl,_⟩|⟨g,cap,cur,rfl,_⟩
  ·exact⟨none,0,rfl,fun i s hs=>by simp at hs,Nat.le_refl _⟩
  ·exact⟨_,cap,rfl,fun i s hs=>by simp at hs,Nat.zero_le _⟩
theorem OwnS.same{w w':World}{b:Nat}{v:Value}{S:List Rs}(h:OwnS b w v S)(e:∀k,v.ownBlock=some k→w'.heap[k]? =w.heap[k]?):OwnS b w' v S:=Z3d h e
theorem Zjr(r0 r1 r2 r3:Int)(base:Option Addr)(n cap:Nat)(S:List Rs)(bl:Option Addr)(k cl:Nat)(l:List Int)(w:World)(hlen:S.length=n)(hk:l.length=k)(hk20:k≤20)(hn:n≤20)(hin:∀j∈l,0≤j∧j<S.length)(hS:RawS w base S)(hl:RawI w bl l):
 Calls prog 72 #[.agg #[.int .i64 r0,.int .i64 r1,.int .i64 r2,.int .i64 r3,.slice base n cap],.slice bl k cl] w fun e w'=>∃v,e= .returned (.agg #[.int .i64 r0,.int .i64 r1,.int .i64 r2,.int .i64 r3,v])∧OwnS w.heap.size w' v (ZR S l)∧Ext w w':=by
 have hS2:Hid (RawS w base S):=hS
 have hl2:Hid (RawI w bl l):=hl
 replace hk:Hid (l.length=k):=hk
 replace hlen:Hid (S.length=n):=hlen
 replace hin:Hid (∀j∈l,0≤j∧j<S.length):=hin
 clear hS hl
 obtain⟨N,hN⟩:∃N,N=w.heap.size+1+1+1:=⟨_,rfl⟩
 have hE0:=(((Ext.rfl' w).alloc (.cells #[.int .i64 r0,.int .i64 r1,.int .i64 r2,.int .i64 r3,.slice base n cap] 70)).alloc (.cells #[.int .i64 0,.int .i64 0,.int .i64 0,.int .i64 0,.slice none 0 0] 70)).alloc (.cells #[.int .i64 r0,.int .i64 r1,.int .i64 r2,.int .i64 r3,.slice none 0 0] 70)
 have hc0:(((w.alloc (.cells #[.int .i64 r0,.int .i64 r1,.int .i64 r2,.int .i64 r3,.slice base n cap] 70)).alloc (.cells #[.int .i64 0,.int .i64 0,.int .i64 0,.int .i64 0,.slice none 0 0] 70)).alloc (.cells #[.int .i64 r0,.int .i64 r1,.int .i64 r2,.int .i64 r3,.slice none 0 0] 70)).heap[w.heap.size]? =some (.cells #[.int .i64 r0,.int .i64 r1,.int .i64 r2,.int .i64 r3,.slice base n cap] 70):=by simp only[Z3,Z2];rw[if_neg (by omega),if_neg (by omega),if_pos trivial]
 have hc1:(((w.alloc (.cells #[.int .i64 r0,.int .i64 r1,.int .i64 r2,.int .i64 r3,.slice base n cap] 70)).alloc (.cells #[.int .i64 0,.int .i64 0,.int .i64 0,.int .i64 0,.slice none 0 0] 70)).alloc (.cells #[.int .i64 r0,.int .i64 r1,.int .i64 r2,.int .i64 r3,.slice none 0 0] 70)).heap[w.heap.size+1]? =some (.cells #[.int .i64 0,.int .i64 0,.int .i64 0,.int .i64 0,.slice none 0 0] 70):=by simp only[Z3,Z2];rw[if_neg (by omega),if_pos trivial]
 have hc2:(((w.alloc (.cells #[.int .i64 r0,.int .i64 r1,.int .i64 r2,.int .i64 r3,.slice base n cap] 70)).alloc (.cells #[.int .i64 0,.int .i64 0,.int .i64 0,.int .i64 0,.slice none 0 0] 70)).alloc (.cells #[.int .i64 r0,.int .i64 r1,.int .i64 r2,.int .i64 r3,.slice none 0 0] 70)).heap[w.heap.size+1+1]? =some (.cells #[.int .i64 r0,.int .i64 r1,.int .i64 r2,.int .i64 r3,.slice none 0 0] 70):=by simp only[Z3,Z2];rw[if_pos trivial]
 go_enter func72,ntmps72
 go_wp2
 generalize World.alloc _ _=w1 at hE0 hc0 hc1 hc2⊢
 go_loopw [6] (fun v6 wr=>∃(i:Nat)(u:Value),i≤k∧v6= .int .i64 i∧Ext w wr∧wr.heap[w.heap.size]? =some (.cells #[.int .i64 r0,.int .i64 r1,.int .i64 r2,.int .i64 r3,.slice base n cap] 70)∧wr.heap[w.heap.size+1]? =some (.cells #[.int .i64 0,.int .i64 0,.int .i64 0,.int .i64 0,.slice none 0 0] 70)∧wr.heap[w.heap.size+1+1]? =some (.cells #[.int .i64 r0,.int .i64 r1,.int .i64 r2,.int .i64 r3,u] 70)∧OwnS N wr u (ZR S (l.take i))) (fun v6 _=>k - (intOf v6).toNat)
 case atStart=>exact⟨0,_,Nat.zero_le _,rfl,hE0,hc0,hc1,hc2,World.ownsRow_nil _ _ _ _⟩
 case round=>
  clear hE0 hc0 hc1 hc2
  obtain⟨i,u,hi,rfl,hE,hb0,hb1,hb2,hO⟩:=hrel
  have hNw:N≤wr.heap.size:=by have:=Z5 hb2;omega
  by_cases hik:i=k
  ·have HR:Hid (ZR S (l.take i)=ZR S l):=by show _=_;rw[hik,←hk.out,List.take_length]
   subst hik
   have x0:=Z0 hb2 0;have x1:=Z0 hb2 1;have x2:=Z0 hb2 2;have x3:=Z0 hb2 3;have x4:=Z0 hb2 4
   have y0:=Z0 hb1 0;have y1:=Z0 hb1 1;have y2:=Z0 hb1 2;have y3:=Z0 hb1 3;have y4:=Z0 hb1 4
   have f0:=Z8 hb1 0;have f1:=Z8 hb1 1;have f2:=Z8 hb1 2;have f3:=Z8 hb1 3;have f4:=Z8 hb1 4
   simp only[List.getElem?_toArray,List.getElem?_cons_zero,List.getElem?_cons_succ] at x0 x1 x2 x3 x4 y0 y1 y2 y3 y4
   have hg1:=ZiD hb1 (.int .i64 r0) (.int .i64 r1) (.int .i64 r2) (.int .i64 r3) u
   have he1:=ZiE hE (show w.heap.size≤w.heap.size+1 by omega) (.int .i64 r0) (.int .i64 r1) (.int .i64 r2) (.int .i64 r3) u
   have hO1:=hO.same (fun k hk=>ZiG wr (b:=w.heap.size+1) (show k≠w.heap.size+1 by have:=(hO.lt k hk).1;omega) (.int .i64 r0) (.int .i64 r1) (.int .i64 r2) (.int .i64 r3) u)
   rw[HR.out] at hO1
   unfold put5 at hg1 he1 hO1
   obtain⟨bu,cu,rfl,_,_⟩:=hO.raw
   clear hb0 hb1 hb2 hO hE
   go_wp2
   have j0:=Z0 hg1 0;have j1:=Z0 hg1 1;have j2:=Z0 hg1 2;have j3:=Z0 hg1 3;have j4:=Z0 hg1 4
   simp only[List.getElem?_toArray,List.getElem?_cons_zero,List.getElem?_cons_succ] at j0 j1 j2 j3 j4
   refine bodyPost_ret (v:= .agg #[.int .i64 r0,.int .i64 r1,.int .i64 r2,.int .i64 r3,_]) ((Z07 rfl _ _ _).trans ?_) rfl ⟨_,rfl,OwnS.le hO1 (by omega),he1⟩
   simp[go_sem,j0,j1,j2,j3,j4]
  ·have hlt:i<k:=by omega
   have hlt2:(i:Int)<(k:Int):=by omega
   obtain⟨x,hx⟩:∃x,l[i]? =some x:=⟨_,List.getElem?_eq_getElem (by have:=hk.out;omega)⟩
   have hxin:=hin.out x (List.mem_of_getElem? hx)
   obtain⟨J,rfl⟩:=Int.eq_ofNat_of_zero_le hxin.1
   have hJ:J<S.length:=by omega
   have hJn:J<n:=by have:=hlen.out;omega
   obtain⟨s,hs⟩:∃s,S[J]? =some s:=⟨_,List.getElem?_eq_getElem hJ⟩
   have HN:Hid (ZR S (l.take (i+1))=ZR S (l.take i)++[s]):=by
    show _=_
    rw[List.take_succ,hx]
    exact Zjl (by simpa using hs)
   have hTl:(ZR S (l.take i)).length≤20:=by
    rw[Zj2 (fun j hj=>hin.out j (List.mem_of_mem_take hj)),List.length_take];omega
   obtain⟨bb,ob,rfl,hbb,hcx⟩:=hl2.out i _ hx
   obtain⟨bs,os,rfl,hbs,shx⟩:=hS2.out J s hs
   have hnb:¬N≤bb:=by omega
   have hnc:¬N≤bs:=by omega
   clear hx hxin hs hJ
   go_wp2_with fail
   refine Zjj (ExtX fun q=>N≤q) 13 (by kernel_rfl) ?_
   have hD:=(Ext.rfl' wr).drew
   have hEd:=hE.trans hD;have hod:=hO.ext hD;have hb0d:=hD.get hb0;have hb1d:=hD.get hb1;have hb2d:=hD.get hb2
   have hcd:=hEd.cellS hcx;have z0:=hEd.cellS shx.c0;have z1:=hEd.cellS shx.c1;have z2:=hEd.cellS shx.c2;have z3:=hEd.cellS shx.c3;have z4:=hEd.cellS shx.c4
   have hNd:N≤wr.drew.heap.size:=Nat.le_trans hNw hD.size
   generalize wr.drew=Wd at hEd hod hb0d hb1d hb2d hcd z0 z1 z2 z3 z4 hNd⊢
   clear hE hO hb0 hb1 hb2 hD hcx shx
   have y4:=Z0 hb0d 4;have x4:=Z0 hb2d 4
   simp only[List.getElem?_toArray,List.getElem?_cons_zero,List.getElem?_cons_succ] at y4 x4
   have gc:=GrE.cell (X:=fun q=>N≤q) hnb hcd
   have gz0:=GrE.cell (X:=fun q=>N≤q) hnc z0;have gz1:=GrE.cell (X:=fun q=>N≤q) hnc z1;have gz2:=GrE.cell (X:=fun q=>N≤q) hnc z2;have gz3:=GrE.cell (X:=fun q=>N≤q) hnc z3;have gz4:=GrE.cell (X:=fun q=>N≤q) hnc z4
   have gy:=GrE.cell (X:=fun q=>N≤q) (show¬N≤w.heap.size by omega) y4
   have gx:=GrE.cell (X:=fun q=>N≤q) (show¬N≤w.heap.size+1+1 by omega) x4
   refine Zjb (ExtX.pre _) [0,1,2,3,4,5,6,7,8,9] (by kernel_rfl) (by kernel_rfl) ?_
   simp only[ZeD,List.getElem?_cons_succ,List.getElem?_cons_zero,List.cons_append,List.nil_append]
   repeat (go_big_quiet_step (fail))
   refine wpQuiet_nil ?_
   refine Zj7 10 rfl (by kernel_rfl) rfl ?_
   clear gc gz0 gz1 gz2 gz3 gz4 gy gx
   refine Zf3 ⟨.slice (some ⟨Wd.heap.size,0,none⟩) 1 1,Wd.alloc (.cells #[.int .i64 s.a,.int .i64 s.m,.int .i64 s.M,.int .i64 s.wi,.int .i64 s.li] 80),by simp[go_sem,execOp,Act.eval],fun _=>Go.Nk.Ext.toX ((Ext.rfl' _).alloc _) _,?_⟩
   have hb5:(Wd.alloc (.cells #[.int .i64 s.a,.int .i64 s.m,.int .i64 s.M,.int .i64 s.wi,.int .i64 s.li] 80)).heap[Wd.heap.size]? =some (.cells #[.int .i64 s.a,.int .i64 s.m,.int .i64 s.M,.int .i64 s.wi,.int .i64 s.li] 80):=by rw[Z3,if_pos rfl]
   have eA:=(Ext.rfl' Wd).alloc (.cells #[.int .i64 s.a,.int .i64 s.m,.int .i64 s.M,.int .i64 s.wi,.int .i64 s.li] 80)
   generalize Wd.alloc _=WA at hb5 eA⊢
   go_simp
   refine Zj7 11 rfl (by kernel_rfl) rfl ?_
   refine Zix _ _ rfl N u (ZR S (l.take i)) rfl (hod.ext eA) ⟨Wd.heap.size,0,none⟩ 1 [s] rfl (by intro j v hj;have e5:Ziv [s]=[.int .i64 s.a,.int .i64 s.m,.int .i64 s.M,.int .i64 s.wi,.int .i64 s.li]:=rfl;rw[e5] at hj;rw[Z0c,Z0 hb5];simpa using hj) (by simp only[List.length_cons,List.length_nil];omega) (Nat.le_trans hNd eA.size) (fun v' W3 own3 hg3=>⟨fun _=>Zhv hg3 (fun k hk=>by have h1:=(hod.lt k hk).1;show _≤k;omega),?_⟩)
   obtain⟨g3,cp3,rfl,_⟩:=own3.form (by simp)
   have hlow:∀b,b<N→W3.heap[b]? =Wd.heap[b]? :=fun b hb=>(hg3.block b (by have:=eA.size;omega) (by intro e;have:=(hod.lt b e.symm).1;omega)).trans (eA.old b (by omega))
   have e3:Ext w W3:=(hEd.trans eA).grown hg3 (fun k hk=>by have:=(hod.lt k hk).1;omega)
   have hb0e:=(hlow _ (by omega)).trans hb0d;have hb1e:=(hlow _ (by omega)).trans hb1d;have hb2e:=(hlow _ (by omega)).trans hb2d
   clear hlow hg3 hb5 eA hod hb0d hb1d hb2d hcd z0 z1 z2 z3 z4 y4 x4 hEd hNd
   have k4:=Z0 hb2e 4;have f4:=Z8 hb2e 4
   simp only[List.getElem?_toArray,List.getElem?_cons_zero,List.getElem?_cons_succ] at k4
   go_simp
   refine Zjb (ExtX.pre _) [12] (by kernel_rfl) (by kernel_rfl) ?_
   simp only[ZeD,List.getElem?_cons_succ,List.getElem?_cons_zero,List.cons_append,List.nil_append]
   repeat (go_big_quiet_step (fail))
   refine wpQuiet_nil ?_
   refine Zj7 13 rfl (by kernel_rfl) rfl ?_
   refine Zie ⟨W3.setCell ⟨w.heap.size+1+1,4,none⟩ (.slice (some ⟨g3,0,none⟩) (ZR S (l.take i)++[s]).length cp3),by simp[go_sem,execOp,Act.eval,k4,f4],fun h=>absurd h (by decide),?_⟩
   have hO4:=own3.same (fun k hk=>set_ne (w:=W3) (a:=⟨w.heap.size+1+1,4,none⟩) (show k≠w.heap.size+1+1 by have:=(own3.lt k hk).1;omega) (.slice (some ⟨g3,0,none⟩) (ZR S (l.take i)++[s]).length cp3))
   have hb2f:=Zb (i:=4) hb2e (.slice (some ⟨g3,0,none⟩) (ZR S (l.take i)++[s]).length cp3)
   have hb0f:=(set_ne (w:=W3) (a:=⟨w.heap.size+1+1,4,none⟩) (show w.heap.size≠w.heap.size+1+1 by omega) (.slice (some ⟨g3,0,none⟩) (ZR S (l.take i)++[s]).length cp3)).trans hb0e
   have hb1f:=(set_ne (w:=W3) (a:=⟨w.heap.size+1+1,4,none⟩) (show w.heap.size+1≠w.heap.size+1+1 by omega) (.slice (some ⟨g3,0,none⟩) (ZR S (l.take i)++[s]).length cp3)).trans hb1e
   have e4:=e3.setCell ⟨w.heap.size+1+1,4,none⟩ (.slice (some ⟨g3,0,none⟩) (ZR S (l.take i)++[s]).length cp3) (show w.heap.size≤w.heap.size+1+1 by omega)
   clear hb0e hb1e hb2e e3 own3 k4 f4
   generalize W3.setCell _ _=W4 at hO4 hb2f hb0f hb1f e4⊢
   go_simp
   refine Zjw (by kernel_rfl) ?_
   go_wp2
   exact⟨⟨i+1,_,by omega,by push_cast;rfl,e4,hb0f,hb1f,hb2f,by rw[HN.out];exact hO4⟩,by simp[intOf];omega⟩
set_option linter.all false
theorem ZgE{w:World}{b:Nat}{a0 a1 a2 a3 a4:Value}{t:TypeId}(h:w.heap[b]? =some (.cells #[a0,a1,a2,a3,a4] t)):
 w.cell? ⟨b,0,none⟩=some a0∧w.cell? ⟨b,1,none⟩=some a1∧w.cell? ⟨b,2,none⟩=some a2∧w.cell? ⟨b,3,none⟩=some a3∧w.cell? ⟨b,4,none⟩=some a4:=
 ⟨Z0 h 0,Z0 h 1,Z0 h 2,Z0 h 3,Z0 h 4⟩
theorem ZgQ{l k:List Int}{i:Nat}{x y:Int}(hx:l[i]? =some x)(hy:k[i]? =some y):lessL (l.drop i) (k.drop i)=if x=y then lessL (l.drop (i+1)) (k.drop (i+1)) else decide (x<y):=by
 rw[Z0b hx,Z0b hy,lessL]
theorem ZgR{l k:List Int}{n2:Nat}(h2:k.length=n2){i:Nat}(h:i=l.length)(hi:i≤n2):lessL (l.drop i) (k.drop i)=decide ((l.length:Int)<(n2:Int)):=by
 subst h
 rw[List.drop_length]
 by_cases h:l.length<n2
 ·obtain⟨y,hy⟩:∃y,k[l.length]? =some y:=⟨_,List.getElem?_eq_getElem (by omega)⟩
  rw[Z0b hy,lessL]
  exact(decide_eq_true (by omega)).symm
 ·rw[List.drop_of_length_le (by omega),lessL]
  exact(decide_eq_false (by omega)).symm
theorem ZgM{l k:List Int}{i:Nat}(h1:i<l.length)(h2:k.length=i):lessL (l.drop i) (k.drop i)=decide ((l.length:Int)<(i:Int)):=by
 obtain⟨y,hy⟩:∃y,l[i]? =some y:=⟨_,List.getElem?_eq_getElem (by omega)⟩
 have hz:k.drop i=[]:=List.drop_of_length_le (by omega)
 rw[Z0b hy,hz,lessL]
 exact(decide_eq_false (by omega)).symm
theorem ZgX(a1:Option Addr)(n1 c1:Nat)(l:List Int)(a2:Option Addr)(n2 c2:Nat)(k:List Int)(w:World)(h1:l.length=n1)(h2:k.length=n2)(hb:n1≤1000000∧n2≤1000000)(hl:RawI w a1 l)(hk:RawI w a2 k):
 Calls prog 70 #[.slice a1 n1 c1,.slice a2 n2 c2] w fun e w'=>e= .returned (.bool (lessL l k))∧Ext w w':=by
 have H:Hid (lessL l k=lessL (l.drop 0) (k.drop 0)):=rfl
 replace h1:Hid (l.length=n1):=h1
 replace h2:Hid (k.length=n2):=h2
 have hl2:Hid (RawI w a1 l):=hl
 have hk2:Hid (RawI w a2 k):=hk
 clear hl hk
 go_enter func70,ntmps70
 go_wp2
 go_loopw [5] (fun v wr=>∃i:Nat,i≤n1∧i≤n2∧v= .int .i64 i∧Ext w wr∧Hid (lessL l k=lessL (l.drop i) (k.drop i))) (fun v _=>n1 - (intOf v).toNat)
 case atStart=>exact⟨0,Nat.zero_le _,Nat.zero_le _,rfl,Ext.rfl' w,H⟩
 case round=>
  clear H
  obtain⟨i,hi,hj,rfl,hE,HP⟩:=hrel
  by_cases hi1:i=n1
  ·have HR:Hid (lessL l k=decide ((n1:Int)<(n2:Int))):=by show _=_;rw[HP.out,ZgR h2.out (hi1.trans h1.out.symm) hj,h1.out]
   subst hi1
   clear HP
   go_wp2
   go_ret
   exact⟨ZP (by rw[HR.out,decide_eq_decide];omega),hE⟩
  ·have hlt:i<n1:=by omega
   have hlt1:(i:Int)<(n1:Int):=by omega
   by_cases hi2:i=n2
   ·have HR:Hid (lessL l k=decide ((n1:Int)<(n2:Int))):=by show _=_;rw[HP.out,ZgM (by have:=h1.out;omega) (h2.out.trans hi2.symm),h1.out,hi2]
    subst hi2
    clear HP
    go_wp2
    go_ret
    exact⟨ZP (by rw[HR.out,decide_eq_decide];omega),hE⟩
   ·have hlt':i<n2:=by omega
    have hlt2:(i:Int)<(n2:Int):=by omega
    obtain⟨x,hxi⟩:∃x,l[i]? =some x:=⟨_,List.getElem?_eq_getElem (by have:=h1.out;omega)⟩
    obtain⟨y,hyi⟩:∃y,k[i]? =some y:=⟨_,List.getElem?_eq_getElem (by have:=h2.out;omega)⟩
    have HS:Hid (lessL l k=if x=y then lessL (l.drop (i+1)) (k.drop (i+1)) else decide (x<y)):=by show _=_;rw[HP.out,ZgQ hxi hyi]
    obtain⟨ba,oa,rfl,hba,hcx⟩:=(hl2.out.ext hE) i x hxi
    obtain⟨bb,ob,rfl,hbb,hcy⟩:=(hk2.out.ext hE) i y hyi
    clear hl2 hk2 hxi hyi HP
    go_wp2_with fail
    have gx:=Zet hcx;have gy:=Zet hcy
    refine ZeG 9 (by kernel_rfl) ?_
    refine ZeB [0,1,2,3,4,5,6,7,8] (by kernel_rfl) (by kernel_rfl) ?_
    simp only[ZeD,List.getElem?_cons_succ,List.getElem?_cons_zero,List.cons_append,List.nil_append]
    repeat (go_big_quiet_step (fail))
    refine wpQuiet_nil ?_
    refine Zf6 (by kernel_rfl) (fun W hW=> ?_)
    have hE2:=hE.trans hW
    have hE2':=hW
    clear hW
    by_cases hxy:x=y
    ·subst hxy
     have HN:Hid (lessL l k=lessL (l.drop (i+1)) (k.drop (i+1))):=by show _=_;rw[HS.out,if_pos rfl]
     clear HS gx gy
     go_wp2
     exact⟨⟨i+1,by omega,by omega,by push_cast;rfl,hE2,HN⟩,by simp[intOf];omega⟩
    ·have HN:Hid (lessL l k=decide (x<y)):=by show _=_;rw[HS.out,if_neg hxy]
     have hb:(x !=y)=true:=by simpa using hxy
     replace hcx:=hE2'.cellS hcx;replace hcy:=hE2'.cellS hcy
     clear HS gx gy
     go_wp2_with fail
     have gx:=Zet hcx;have gy:=Zet hcy
     refine ZeG 10 (by kernel_rfl) ?_
     refine ZeB [0,1,2,3,4,5,6,7,8,9] (by kernel_rfl) (by kernel_rfl) ?_
     simp only[ZeD,List.getElem?_cons_succ,List.getElem?_cons_zero,List.cons_append,List.nil_append]
     repeat (go_big_quiet_step (fail))
     refine wpQuiet_nil ?_
     refine Zf6 (by kernel_rfl) (fun W hW=> ?_)
     have hE3:=hE2.trans hW
     clear gx gy hcx hcy
     go_wp2
     go_ret
     exact⟨ZP HN.out.symm,hE3⟩
end Go.Proofs.Tryq
namespace Go.Proofs.Tryq
open Go Go.Nk Go.RowKit
set_option linter.all false
theorem Zhx{w:World}{bl:Option Addr}{S:List Int}(h:RawI w bl S)(h0:S≠[]):∃b o,bl=some ⟨b,o,none⟩∧b<w.heap.size∧∀j u,(S.map (Value.int .i64))[j]? =some u→w.cell? ((⟨b,o,none⟩:Addr).add j)=some u:=by
 obtain⟨x,hx⟩:∃x,S[0]? =some x:=by
  cases S with
  |nil=>exact absurd rfl h0
  |cons x t=>exact⟨x,rfl⟩
 obtain⟨b,o,rfl,hb,_⟩:=h 0 x hx
 refine⟨b,o,rfl,hb,fun j u hj=> ?_⟩
 rw[List.getElem?_map] at hj
 obtain⟨y,hy,rfl⟩:=Option.map_eq_some_iff.1 hj
 obtain⟨b',o',e,_,hc⟩:=h j y hy
 obtain⟨rfl,rfl⟩:b=b'∧o=o':=by simpa using e
 have e2:(⟨b,o,none⟩:Addr).add j=⟨b,o+j,none⟩:=by unfold Addr.add;split<;>simp_all
 rw[e2]
 exact hc
theorem Zhm{o:Oper}{a:Act}{w:World}{K:Act→World→Prop}{Q:Exit→Act→World→Prop}(s x:Operand)(ho:o.op= .call {callee:= .builtin .append,args:= #[s,x],argTypes:= #[27,27]})
 (base:Nat)(v:Value)(T:List Int)(hs:a.eval s=v)(hown:OwnI base w v T)(bl:Option Addr)(c:Nat)(S:List Int)(hx:a.eval x= .slice bl S.length c)(hnil:bl=none→c=0)(hS:RawI w bl S)
 (hb:T.length+S.length≤1000000)(hbase:base≤w.heap.size)(h:∀v' w',OwnI base w' v' (T++S)→w.grownBy w' v.ownBlock→K (a.put o.dst v') w'):o.wp prog a w K Q:=by
 cases bl with
 |none=>
  have hS0:S=[]:=by
   cases S with
   |nil=>rfl
   |cons x t=>
    obtain⟨b,o,e,_⟩:=hS 0 x rfl
    cases e
  subst hS0
  obtain rfl:=hnil rfl
  have hrun:=run_append_owned_none (P:=prog) (w:=w) base 27 o.type 3 Tryz.t3 1 u27 i3 v T.length (T.map (Value.int .i64)) hown
  have hx:a.eval x= .slice none 0 0:=hx
  unfold Oper.wp
  simp[execOp,ho,resolve,invoke,builtin,hs,hx,hrun,Result.andThen]
  exact h v w (by rw[List.append_nil];exact hown) ⟨rfl,rfl,rfl,Nat.le_refl _,fun b hb _=>rfl⟩
 |some ad=>
  have hn:∀j u,(S.map (Value.int .i64))[j]? =some u→w.cell? (ad.add j)=some u:=by
   by_cases h0:S=[]
   ·subst h0;intro j u hj;simp at hj
   ·obtain⟨b,o,e,_,hc⟩:=Zhx hS h0
    cases e
    exact hc
  refine wp_append_own w s x 27 ho base 3 Tryz.t3 (.int .i64 0) 1 8 u27 i3 t3z t3s t3b rfl (by omega) v T.length (T.map (Value.int .i64)) hs hown ad S.length c (S.map (Value.int .i64)) hx (by simp) hn (by intro u hu;obtain⟨x,_,rfl⟩:=List.mem_map.1 hu;rfl) (by simp only[maxLen];omega) (by omega) hbase ?_
  intro v' w' h1 h2 _
  refine h v' w' ?_ h2
  show w'.ownsRow base 3 1 v' (T++S).length ((T++S).map (Value.int .i64))
  rw[List.map_append,List.length_append]
  exact h1
set_option linter.all false
theorem Zhj(bl:Option Addr)(k cl:Nat)(l:List Int)(x:Int)(w:World)(hk:l.length=k)(hb:k≤1000000)(hl:RawI w bl l):
 Calls prog 39 #[.slice bl k cl,.int .i64 x] w fun e w'=>e= .returned (.bool (decide (x∈l)))∧Ext w w':=by
 have H:Hid (decide (x∈l)=decide (x∈l.drop 0)):=rfl
 replace hk:Hid (l.length=k):=hk
 have hl2:Hid (RawI w bl l):=hl
 clear hl
 go_enter func39,ntmps39
 go_wp2
 go_loopw [5] (fun v wr=>∃i:Nat,i≤k∧v= .int .i64 i∧Ext w wr∧Hid (decide (x∈l)=decide (x∈l.drop i))) (fun v _=>k - (intOf v).toNat)
 case atStart=>exact⟨0,Nat.zero_le _,rfl,Ext.rfl' w,H⟩
 case round=>
  clear H
  obtain⟨i,hi,rfl,hE,HP⟩:=hrel
  by_cases hik:i=k
  ·have HR:Hid (decide (x∈l)=false):=by show _=_;rw[HP.out,hik,←hk.out,List.drop_length];simp
   subst hik
   clear HP
   go_wp2
   go_ret
   exact⟨ZP HR.out.symm,hE⟩
  ·have hlt:i<k:=by omega
   have hlt2:(i:Int)<(k:Int):=by omega
   obtain⟨y,hy⟩:∃y,l[i]? =some y:=⟨_,List.getElem?_eq_getElem (by have:=hk.out;omega)⟩
   obtain⟨b,o,rfl,hb1,hc⟩:=(hl2.out.ext hE) i y hy
   by_cases hxy:y=x
   ·have HR:Hid (decide (x∈l)=true):=decide_eq_true (hxy▸List.mem_of_getElem? hy)
    subst hxy
    clear hl2 hy HP
    go_wp2
    go_ret
    exact⟨ZP HR.out.symm,hE⟩
   ·have HN:Hid (decide (x∈l)=decide (x∈l.drop (i+1))):=by
     show _=_
     rw[HP.out,Z0b hy,Bool.eq_iff_iff]
     simp[Ne.symm hxy]
    clear hy HP
    go_wp2
    exact⟨⟨i+1,by omega,by push_cast;rfl,hE,HN⟩,by simp[intOf];omega⟩
end Go.Proofs.Tryq
