import Derived.Test.YtedkbdkbbnemlaaGreatDoorNk29
set_option linter.all false
namespace Go.Proofs.Tryq
open Go Go.Nk Go.RowKit
set_option linter.all false
theorem ZgQ{l k:List Int}{i:Nat}{x y:Int}(hx:l[i]? =some x)(hy:k[i]? =some y):lessL (l.drop i) (k.drop i)=if x=y then lessL (l.drop (i+1)) (k.drop (i+1)) else decide (x<y):=by
 rw[Z0b hx,Z0b hy,lessL]
set_option linter.all false
theorem Zmm(v:Nat):BitVec.ofInt 16 (v:Int)=BitVec.ofNat 16 v:=BitVec.ofInt_natCast ..
theorem Zmp(v:Nat)(hv:v<65536){i:Nat}(hi:i<16):Zfg (v:Int) i=v.testBit i:=by
 have e:((v:Int) / 2 ^ min i 16)=((v / 2 ^ i:Nat):Int):=by
  rw[Nat.min_eq_left (by omega)];push_cast;rfl
 have h2:(bits BinOp.and IntKind.u16 ((v / 2 ^ i:Nat):Int) 1)=((v / 2 ^ i % 2:Nat):Int):=by
  have h3:v / 2 ^ i<65536:=Nat.lt_of_le_of_lt (Nat.div_le_self _ _) hv;generalize v / 2 ^ i=y at h3⊢;have e1:(BitVec.ofInt IntKind.u16.bits (y:Int)&&& BitVec.ofInt IntKind.u16.bits 1).toNat=y % 2:=by
   show(BitVec.ofInt 16 (y:Int)&&& BitVec.ofInt 16 ((1:Nat):Int)).toNat=y % 2;rw[Zmm,Zmm,BitVec.toNat_and,BitVec.toNat_ofNat,BitVec.toNat_ofNat];simp only[Nat.reducePow,Nat.one_mod];rw[Nat.mod_eq_of_lt (by omega),Nat.and_one_is_mod]
  show IntKind.u16.wrap (((BitVec.ofInt IntKind.u16.bits (y:Int)&&& BitVec.ofInt IntKind.u16.bits 1).toNat:Nat):Int)=_;rw[e1];obtain h|h:y % 2=0\/y % 2=1:=by omega
  ·rw[h];rfl
  ·rw[h];rfl
 rw[Zfg,e,h2,Nat.testBit_eq_decide_div_mod_eq];obtain h|h:v / 2 ^ i % 2=0\/v / 2 ^ i % 2=1:=by omega
 ·rw[h];rfl
 ·rw[h];rfl
theorem ZmB{x:Nat}(h:x<65536):IntKind.u16.wrap (x:Int)=x:=by
 have e:IntKind.u16.wrap (x:Int)=(x:Int) % 65536:=by simp[IntKind.wrap,IntKind.bits,IntKind.signed]
 rw[e];omega
theorem Zmz(v t:Nat):∃y:Nat,y<65536/\bits BinOp.andNot IntKind.u16 (v:Int) (t:Int)=y/\∀i,i<16->y.testBit i=(v.testBit i&& !t.testBit i):=by
 refine⟨(BitVec.ofNat 16 v&&& ~~~BitVec.ofNat 16 t).toNat,BitVec.isLt _,?_,fun i hi=> ?_⟩
 ·show IntKind.u16.wrap (((BitVec.ofInt 16 (v:Int)&&& ~~~BitVec.ofInt 16 (t:Int)).toNat:Nat):Int)=_;rw[Zmm,Zmm];exact ZmB (BitVec.isLt _)
 ·rw[BitVec.testBit_toNat,BitVec.getLsbD_and,BitVec.getLsbD_not,BitVec.getLsbD_ofNat,BitVec.getLsbD_ofNat];simp[hi]
theorem or16(v t:Nat):∃y:Nat,y<65536/\bits BinOp.or IntKind.u16 (v:Int) (t:Int)=y/\∀i,i<16->y.testBit i=(v.testBit i||t.testBit i):=by
 refine⟨(BitVec.ofNat 16 v|||BitVec.ofNat 16 t).toNat,BitVec.isLt _,?_,fun i hi=> ?_⟩
 ·show IntKind.u16.wrap (((BitVec.ofInt 16 (v:Int)|||BitVec.ofInt 16 (t:Int)).toNat:Nat):Int)=_;rw[Zmm,Zmm];exact ZmB (BitVec.isLt _)
 ·rw[BitVec.testBit_toNat,BitVec.getLsbD_or,BitVec.getLsbD_ofNat,BitVec.getLsbD_ofNat];simp[hi]
theorem ZmA{v:Nat}(hv:v<65536){n:Nat}(hn:n<=16){p:Int}:p∈ZeL v n↔0<=p/\p<n/\v.testBit p.toNat=true:=by
 constructor
 ·intro h;obtain⟨j,hj,rfl⟩:=List.mem_map.1 h;obtain⟨h1,h2⟩:=List.mem_filter.1 hj;rw[List.mem_range] at h1;rw[Zmp v hv (by omega)] at h2;exact⟨by omega,by omega,h2⟩
 ·rintro⟨h0,h1,h2⟩;exact List.mem_map.2 ⟨p.toNat,List.mem_filter.2 ⟨List.mem_range.2 (by omega),by rw[Zmp v hv (by omega)];exact h2⟩,by omega⟩
structure Gath(a b c:Int)(m:Nat)(L:List Sf)(M:List (List Int))(t:Nat):Prop where
 ok:∀l∈M,SetOk a b c m L (fun _=>False) l
 ord:M.Pairwise fun l k=>lessL l k=true
 dis:M.Pairwise Zmy
 tk:∀l∈M,∀p∈l,t.testBit p.toNat=true
 lt:t<65536
theorem Zmu{l k:List Int}{x y:Int}(hx:l[0]? =some x)(hy:k[0]? =some y)(h:x<y):lessL l k=true:=by
 cases l with
 |nil=>cases hx
 |cons x' l=>
  cases k with
  |nil=>cases hy
  |cons y' k=>
   simp only[List.getElem?_cons_zero,Option.some.injEq] at hx hy;subst hx;subst hy;rw[lessL,if_neg (by omega)];exact decide_eq_true h
theorem Zmq{l k:List Int}{x y:Int}(hx:l[0]? =some x)(hy:k[0]? =some y)(h:lessL l k=true):x<=y:=by
 cases l with
 |nil=>cases hx
 |cons x' l=>
  cases k with
  |nil=>cases hy
  |cons y' k=>
   simp only[List.getElem?_cons_zero,Option.some.injEq] at hx hy;subst hx;subst hy;rw[lessL] at h;split at h
   ·omega
   ·have:=of_decide_eq_true h;omega
theorem less_asymm:∀{l k:List Int},lessL l k=true->lessL k l=false
 |[],[],h=>by cases h
 |[],_::_,_=>rfl
 |_::_,[],h=>by cases h
 |x::l,y::k,h=>by
  rw[lessL] at h;rw[lessL];split at h
  ·rename_i e;rw[if_pos e.symm];exact less_asymm h
  ·rename_i e;have:=of_decide_eq_true h;rw[if_neg (fun h=>e h.symm)];exact decide_eq_false (by omega)
theorem Gath.step{a b c:Int}{m:Nat}{L:List Sf}{M:List (List Int)}{t:Nat}(h:Gath a b c m L M t)(hm:0<m)(hL:L.length<=16){v:Nat}(hv:v<65536){y:Nat}(hy:y<65536)(hyb:∀i,i<16->y.testBit i=(v.testBit i&& !t.testBit i)){t':Nat}(ht':t'<65536)(Um:∀i,i<16->t'.testBit i=(t.testBit i||v.testBit i))
 (hl:(ZeL y L.length).length=m)(hs:Zr (apA a b c L (ZeL y L.length))=1)(hh:∀k p q,M.getLast? =some k->k[0]? =some p->(ZeL y L.length)[0]? =some q->p<q):Gath a b c m L (M++[ZeL y L.length]) t':=by
 have hu:=ZeY (y:Int) L.length;have A8:∃q,(ZeL y L.length)[0]? =some q:=⟨_,List.getElem?_eq_getElem (by omega)⟩;obtain⟨q,hq⟩:=A8;have Ay:∀p∈ZeL y L.length,t.testBit p.toNat=false/\v.testBit p.toNat=true/\p.toNat<16:=by
  intro p hp;obtain⟨h0,h1,h2⟩:=(ZmA hy hL).1 hp;rw[hyb _ (by omega)] at h2;simp only[Bool.and_eq_true,Bool.not_eq_true'] at h2;exact⟨h2.2,h2.1,by omega⟩
 refine⟨fun l Ck=> ?_,?_,?_,fun l Ck p hp=> ?_,ht'⟩
 ·rcases List.mem_append.1 Ck with h2|h2
  ·exact h.ok l h2
  ·cases List.mem_singleton.1 h2;exact⟨hu.1,fun i hi=>⟨(hu.2 i hi).1,(hu.2 i hi).2,id⟩,hl,hs⟩
 ·refine List.pairwise_append.2 ⟨h.ord,List.pairwise_singleton _ _,fun l Ck k hk=> ?_⟩;cases List.mem_singleton.1 hk;have Un:∃k,M.getLast? =some k:=by
   cases e:M.getLast? with
   |none=>rw[List.getLast?_eq_none_iff] at e;subst e;cases Ck
   |some k=>exact⟨k,rfl⟩
  obtain⟨k,hk⟩:=Un;have Gj:k∈M:=List.mem_of_getLast? hk;obtain⟨p,hp⟩:∃p,k[0]? =some p:=⟨_,List.getElem?_eq_getElem (by have:=(h.ok k Gj).len;omega)⟩;obtain⟨p2,Hj⟩:∃p,l[0]? =some p:=⟨_,List.getElem?_eq_getElem (by have:=(h.ok l Ck).len;omega)⟩;have h1:=hh k p q hk hp hq;have h2:p2<=p:=by
   by_cases e:l=k
   ·subst e;rw[hp] at Hj;cases Hj;exact Int.le_refl _
   ·obtain⟨N,rfl⟩:∃N,M=N++[k]:=by
     rw[List.getLast?_eq_some_iff] at hk;exact hk
    rcases List.mem_append.1 Ck with h3|h3
    ·exact Zmq Hj hp ((List.pairwise_append.1 h.ord).2.2 l h3 k (List.mem_singleton_self _))
    ·exact absurd (List.mem_singleton.1 h3) e
  exact Zmu Hj hq (by omega)
 ·refine List.pairwise_append.2 ⟨h.dis,List.pairwise_singleton _ _,fun l Ck k hk=> ?_⟩;cases List.mem_singleton.1 hk;intro p hp Hj;have h1:=h.tk l Ck p hp;have h2:=(Ay p Hj).1;rw[h1] at h2;cases h2
 ·rcases List.mem_append.1 Ck with h2|h2
  ·have h3:=(h.ok l h2).mem p hp;rw[Um _ (by omega),h.tk l h2 p hp];rfl
  ·cases List.mem_singleton.1 h2;have h3:=Ay p hp;rw[Um _ h3.2.2,h3.2.1,Bool.or_true]
theorem sub_less:∀(T M:List (List Int)),T.Pairwise (fun l k=>lessL l k=true)->(∀l∈M,l∈T)->M.Pairwise (fun l k=>lessL l k=true)->M.Sublist T
 |[],[],_,_,_=>List.Sublist.refl _
 |[],l::M,_,hm,_=>by have:=hm l List.mem_cons_self;cases this
 |s::T,[],_,_,_=>List.nil_sublist _
 |s::T,l::M,hT,Ay,Hv=>by
  have H6:=List.pairwise_cons.1 hT;have ho:=List.pairwise_cons.1 Hv;rcases List.mem_cons.1 (Ay l List.mem_cons_self) with rfl|W0
  ·refine List.Sublist.cons_cons _ (sub_less T M H6.2 (fun k hk=> ?_) ho.2);rcases List.mem_cons.1 (Ay k (List.mem_cons_of_mem _ hk)) with rfl|Aw
   ·have:=ho.1 k hk;rw[less_self] at this;cases this
   ·exact Aw
  ·refine List.Sublist.cons _ (sub_less T (l::M) H6.2 (fun k hk=> ?_) Hv);rcases List.mem_cons.1 (Ay k hk) with rfl|Aw
   ·rcases List.mem_cons.1 hk with rfl|hk
    ·exact W0
    ·have h1:=ho.1 k hk;have h2:=H6.1 l W0;have:=less_asymm h1;rw[h2] at this;cases this
   ·exact Aw
section
variable {a b c m:Int} {L:List Sf} (h:Zp a b c m L=0)
include h
theorem fill_eq:Z66 a b c m L=shareL [] (ZgO a b c L m.toNat (upL L.length)) []:=by
 have hm:=(ZlF h).m;rw[Z66,if_pos (by rw[Zhq];exact h),ZhE _ _ _ _ _ _ (by omega),ZgU];rfl
theorem ZmC{l:List Int}:l∈ZgO a b c L m.toNat (upL L.length)↔SetOk a b c m.toNat L (fun _=>False) l:=
 Zlr (Zj9 _) fun i=>by rw[Zjk];simp
theorem Zmr{l:List Int}(hl:l∈Z66 a b c m L):SetOk a b c m.toNat L (fun _=>False) l:=by
 rw[fill_eq h] at hl;exact(ZmC h).1 ((shareL_pack _ _).sub.subset hl)
theorem fill_dis:(Z66 a b c m L).Pairwise Zmy:=by rw[fill_eq h];exact(shareL_pack _ _).dis
theorem fill_ord:(Z66 a b c m L).Pairwise fun l k=>lessL l k=true:=by
 rw[fill_eq h];exact(ZgS a b c L _ _ (Zj9 _)).sublist (shareL_pack _ _).sub
theorem Zmv{i:Nat}{l k:List Int}{x y:Int}(hl:(Z66 a b c m L)[i]? =some l)(hk:(Z66 a b c m L)[i+1]? =some k)(hx:l[0]? =some x)(hy:k[0]? =some y):x<y:=by
 obtain⟨h1,e1⟩:=List.getElem?_eq_some_iff.1 hl;obtain⟨h2,e2⟩:=List.getElem?_eq_some_iff.1 hk;have o:=List.pairwise_iff_getElem.1 (fill_ord h) i (i+1) h1 h2 (by omega);have d:=List.pairwise_iff_getElem.1 (fill_dis h) i (i+1) h1 h2 (by omega);rw[e1,e2] at o d;have h3:=Zmq hx hy o;have h4:x≠y:=by
  rintro rfl;exact d x (List.mem_of_getElem? hx) (List.mem_of_getElem? hy)
 omega
theorem Gath.pack{M:List (List Int)}{t:Nat}(hg:Gath a b c m.toNat L M t):Pack (ZgO a b c L m.toNat (upL L.length)) [] M:=by
 have hT:=ZgS a b c L m.toNat _ (Zj9 L.length);refine⟨?_,hg.dis,fun l _ x _ hx=>by cases hx⟩;have Ay:∀l∈M,l∈ZgO a b c L m.toNat (upL L.length):=fun l hl=>(ZmC h).2 (hg.ok l hl)
 have Hv:=hg.ord;exact sub_less _ _ hT Ay Hv
theorem Gath.le{M:List (List Int)}{t:Nat}(hg:Gath a b c m.toNat L M t):M.length<=(Z66 a b c m L).length:=by
 rw[fill_eq h];exact shareL_most _ _ _ (hg.pack h)
theorem Gath.least{M:List (List Int)}{t:Nat}(hg:Gath a b c m.toNat L M t)(hl:M.length=(Z66 a b c m L).length):LeL (Z66 a b c m L) M:=by
 rw[fill_eq h] at hl⊢;exact shareL_least _ _ _ (ZgS a b c L m.toNat _ (Zj9 L.length)) (hg.pack h) hl
theorem flat_nodup:∀{P:List (List Int)},(∀l∈P,l.Nodup)->P.Pairwise Zmy->P.flatten.Nodup
 |[],_,_=>List.nodup_nil
 |l::P,h1,h2=>by
  have h3:=List.pairwise_cons.1 h2;rw[List.flatten_cons,List.nodup_append];refine⟨h1 l List.mem_cons_self,flat_nodup (fun k hk=>h1 k (List.mem_cons_of_mem _ hk)) h3.2,fun x hx y hy e=> ?_⟩;subst e;obtain⟨k,hk,R8⟩:=List.mem_flatten.1 hy;exact h3.1 k hk x hx R8
theorem flat_len:∀{P:List (List Int)}{m:Nat},(∀l∈P,l.length=m)->P.flatten.length=P.length*m
 |[],_,_=>by simp
 |l::P,m,h=>by
  rw[List.flatten_cons,List.length_append,flat_len fun k hk=>h k (List.mem_cons_of_mem _ hk),h l List.mem_cons_self,List.length_cons,Nat.succ_mul];omega
theorem fill_left:(Z6T a b c m L).Pairwise (·<·)/\(∀p,p∈Z6T a b c m L↔(0<=p/\p<L.length)/\∀l∈Z66 a b c m L,p∉l)/\(Z6T a b c m L).length+(Z66 a b c m L).length*m.toNat=L.length:=by
 have ho:Zo a b c m L []=0:=by rw[Zhq];exact h
 have Ay:∀p,p∈Z6T a b c m L↔(0<=p/\p<L.length)/\∀l∈Z66 a b c m L,p∉l:=by
  intro p;rw[Z6T,if_pos ho,Z32,List.mem_map];constructor
  ·rintro⟨i,hi,rfl⟩;obtain⟨h1,h2⟩:=List.mem_filter.1 hi;rw[List.mem_range] at h1;rw[inL,Bool.not_eq_true',List.any_eq_false] at h2;exact⟨⟨by omega,by omega⟩,fun l hl hp=>h2 l hl (by simpa using hp)⟩
  ·rintro⟨⟨h0,h1⟩,h2⟩;refine⟨p.toNat,List.mem_filter.2 ⟨List.mem_range.2 (by omega),?_⟩,by omega⟩;rw[inL,Bool.not_eq_true',List.any_eq_false];intro l hl hp;rw[Int.toNat_of_nonneg h0,List.contains_iff_mem] at hp;exact h2 l hl hp
 have Jc:(Z6T a b c m L).Pairwise (·<·):=by
  rw[Z6T,if_pos ho,Z32];exact(ZgK L.length).sublist (List.filter_sublist.map _)
 refine⟨Jc,Ay,?_⟩;have Ev:=fun l hl=>Zmr h (l:=l) hl
 have e1:(Z66 a b c m L).flatten.length=(Z66 a b c m L).length*m.toNat:=flat_len h fun l hl=>(Ev l hl).len
 have n1:(Z6T a b c m L++(Z66 a b c m L).flatten).Nodup:=by
  rw[List.nodup_append];refine⟨ZlI Jc,flat_nodup h (fun l hl=>ZlI (Ev l hl).asc) (fill_dis h),fun x hx y hy e=> ?_⟩;subst e;obtain⟨l,hl,P9⟩:=List.mem_flatten.1 hy;exact((Ay x).1 hx).2 l hl P9
 have n2:=ZlI (Zj9 L.length)
 have l1:=Zjd n1 (Q:=upL L.length) fun x hx=>by
  rw[Zjk];rcases List.mem_append.1 hx with hx|hx
  ·exact((Ay x).1 hx).1
  ·obtain⟨l,hl,P9⟩:=List.mem_flatten.1 hx;have:=(Ev l hl).mem x P9;exact⟨this.1,this.2.1⟩
 have l2:=Zjd n2 (Q:=Z6T a b c m L++(Z66 a b c m L).flatten) fun x hx=>by
  rw[Zjk] at hx;by_cases hf:∃l∈Z66 a b c m L,x∈l
  ·exact List.mem_append_right _ (List.mem_flatten.2 hf)
  ·exact List.mem_append_left _ ((Ay x).2 ⟨hx,fun l hl P9=>hf ⟨l,hl,P9⟩⟩)
 rw[List.length_append,Zj5] at l1 l2;omega
end
end Go.Proofs.Tryq
namespace Go.Proofs.Tryq
set_option maxRecDepth 100000
set_option maxHeartbeats 8000000
open Go Go.Nk Go.RowKit
set_option linter.all false
def Zm4(x:Sf)(k:Nat)(pk:List Int)(i:Nat):Int:=(spA x k).1+Zgu pk (3*i+k) % ((spA x k).2 - (spA x k).1+1)
def ZlZ(L:List Sf)(pk:List Int)(i k:Nat):Int:=match L[i]? with
 |some x=>Zm4 x k pk i
 |none=>0
theorem Zm8{x:Sf}{k:Nat}(h:0<=(spA x k).1/\(spA x k).1<=(spA x k).2/\(spA x k).2<=9999)(pk:List Int)(i:Nat):(spA x k).1<=Zm4 x k pk i/\Zm4 x k pk i<=(spA x k).2:=by
 have h3:(spA x k).2 - (spA x k).1+1≠0:=by omega
 have h5:=Int.emod_nonneg (Zgu pk (3*i+k)) h3;have h6:=Int.emod_lt_of_pos (Zgu pk (3*i+k)) (show 0<(spA x k).2 - (spA x k).1+1 by omega);unfold Zm4;generalize Zgu pk (3*i+k) % ((spA x k).2 - (spA x k).1+1)=y at h5 h6⊢;omega
theorem Zm9{a b c m:Int}{L:List Sf}(hs:StockOk a b c m L)(pk:List Int):InM L (ZlZ L pk)/\∀i k,0<=ZlZ L pk i k/\ZlZ L pk i k<=9999:=by
 refine⟨fun i x hx k _=> ?_,fun i k=> ?_⟩
 ·rw[ZlZ,hx];exact Zm8 (hs.ok x (List.mem_of_getElem? hx) k) pk i
 ·unfold ZlZ;split
  ·rename_i x hx;have h1:=hs.ok x (List.mem_of_getElem? hx) k;have h2:=Zm8 h1 pk i;omega
  ·omega
theorem Zma(a b c m:Int)(bs off n cap:Nat)(x:Sf)(i k:Nat)(pb:Option Addr)(pn pc:Nat)(pk:List Int)(w:World)(Dq:bs<w.heap.size)(hi:i<n)(hn:n<=20)(hk:k<3)(sx:ShaftAt w bs (off+i*7) x)(hx:0<=(spA x k).1/\(spA x k).1<=(spA x k).2/\(spA x k).2<=9999)
 (A2:pk.length=pn)(hu:∀x∈pk,0<=x/\x<65536)(hl:RawU w pb pk):
 Calls prog 76 #[.agg #[.int .i64 a,.int .i64 b,.int .i64 c,.int .i64 m,.slice (some ⟨bs,off,none⟩) n cap],.int .i64 i,.int .i64 k,.slice pb pn pc] w fun e w'=>e= .returned (.int .i64 (Zm4 x k pk i))/\Ext w w':=by
 have Wt:=fun w=>Z31 x k hk w
 have Pp:=fun W (hW:Ext w W)=>Zgl pb pn pc pk (3*i+k) W A2 (by omega) hu (hl.ext hW)
 have Q2:=Zgp (m:=65535) (by omega) (fun x hx=>by have:=hu x hx;omega:∀x∈pk,0<=x/\x<=65535) (3*i+k);have H:Hid (Zm4 x k pk i=(spA x k).1+Zgu pk (3*i+k) % ((spA x k).2 - (spA x k).1+1)):=rfl;simp only[sfC] at Wt;generalize Zm4 x k pk i=R at H⊢;generalize spA x k=P at Wt hx H;obtain⟨P1,P2⟩:=P;dsimp only at Wt hx H;have Lc:=fun W=>Zgq P1 P2 (Zgu pk (3*i+k)) W hx.2.1 (by omega) (by omega) (by omega)
 rw[<-H.out] at Lc;clear H;have h1:wrap64 (3*(i:Int))=3*(i:Int):=Z6a _ (by omega);have h2:wrap64 (3*(i:Int)+(k:Int))=((3*i+k:Nat):Int):=by rw[Z6a (3*(i:Int)+(k:Int)) (by omega)];push_cast;rfl
 generalize Zgu pk (3*i+k)=ch at Pp Lc;have F9:(i:Int)<(n:Int):=by omega
 clear hu hl A2 Q2;have Aj:=(Ext.rfl' w).alloc (.cells #[.int .i64 a,.int .i64 b,.int .i64 c,.int .i64 m,.slice (some ⟨bs,off,none⟩) n cap] 26);have hr:(w.alloc (.cells #[.int .i64 a,.int .i64 b,.int .i64 c,.int .i64 m,.slice (some ⟨bs,off,none⟩) n cap] 26)).heap[w.heap.size]? =some (.cells #[.int .i64 a,.int .i64 b,.int .i64 c,.int .i64 m,.slice (some ⟨bs,off,none⟩) n cap] 26):=(Z3 _ _ _).trans (if_pos rfl);have C1:=hr;obtain⟨q0,q1,q2,q3,q4⟩:=Zgj C1;have x0:=Aj.cellS sx.1;have x1:=Aj.cellS sx.2;have x2:=Aj.cellS sx.3;have x3:=Aj.cellS sx.4;have x4:=Aj.cellS sx.5;have x5:=Aj.cellS sx.6;have x6:=Aj.cellS sx.7;clear C1 sx hr;go_enter func76,ntmps76
 go_wp2_with (first
  |(go_at_call 33;refine(Wt _).mono ?_;rintro e w2 ⟨rfl,A6⟩
    have Ak:=Aj.trans A6)
  |(go_at_call 48;refine(Pp _ Ak).mono ?_;rintro e w3 ⟨rfl,As⟩
    have B8:=Ak.trans As)
  |(go_at_call 47;refine(Lc _).mono ?_;rintro e w4 ⟨rfl,C8⟩
    have Jz:=B8.trans C8))
 go_ret;exact⟨rfl,Jz⟩
def MtdT(a b c:Int)(R:Nat->Nat->Int)(l:List Int)(kw i j:Nat):Prop:=∀(k i' j':Nat)(x y:Int),(k<kw\/(k=kw/\(i'<i\/(i'=i/\j'<j))))->l[i']? =some x->l[j']? =some y->R x.toNat k - R y.toNat k<=alw a b c k
section
variable {a b c:Int} {R:Nat->Nat->Int} {l:List Int} {kw i j:Nat}
theorem MtdT.start:MtdT a b c R l 0 0 0:=fun k i' j' x y h=>(by omega)
theorem MtdT.step(h:MtdT a b c R l kw i j){x y:Nat}(hx:l[i]? =some (x:Int))(hy:l[j]? =some (y:Int))(hd:R x kw - R y kw<=alw a b c kw):MtdT a b c R l kw i (j+1):=by
 intro k i' j' x' y' ho hx' hy';by_cases e:k=kw/\i'=i/\j'=j
 ·obtain⟨rfl,rfl,rfl⟩:=e;rw[hx] at hx';rw[hy] at hy';cases hx';cases hy';exact hd
 ·exact h k i' j' x' y' (by omega) hx' hy'
theorem MtdT.row(h:MtdT a b c R l kw i j)(hj:l.length<=j):MtdT a b c R l kw (i+1) 0:=by
 intro k i' j' x' y' ho hx' hy';have:=(List.getElem?_eq_some_iff.1 hy').1;exact h k i' j' x' y' (by omega) hx' hy'
theorem MtdT.next(h:MtdT a b c R l kw i 0)(hi:l.length<=i):MtdT a b c R l (kw+1) 0 0:=by
 intro k i' j' x' y' ho hx' hy';have:=(List.getElem?_eq_some_iff.1 hx').1;exact h k i' j' x' y' (by omega) hx' hy'
theorem MtdT.done(h:MtdT a b c R l 3 0 0):Mtd a b c R l:=by
 intro k hk x hx y hy;obtain⟨i',hi⟩:=List.mem_iff_getElem?.1 hx;obtain⟨j',hj⟩:=List.mem_iff_getElem?.1 hy;exact h k i' j' x y (by omega) hi hj
end
theorem Zm5(a b c m:Int)(base:Option Addr)(n cap:Nat)(l:List Int)(bl:Option Addr)(k cl:Nat)(pb:Option Addr)(pn pc:Nat)(R:Nat->Nat->Int)(mb:Bool)(w:World)(hk:Hid (l.length=k))(Aw:k<=100)(Ao:Hid (∀x∈l,0<=x/\x<n))(Wu:Hid (mb=true↔Mtd a b c R l))(hRb:Hid (∀i k,0<=R i k/\R i k<=9999))(hI:Hid (RawI w bl l))
 (N9:∀W (i k:Nat),Ext w W->i<n->k<3->Calls prog 76 #[.agg #[.int .i64 a,.int .i64 b,.int .i64 c,.int .i64 m,.slice base n cap],.int .i64 i,.int .i64 k,.slice pb pn pc] W fun e w'=>e= .returned (.int .i64 (R i k))/\Ext W w'):
 Calls prog 32 #[.agg #[.int .i64 a,.int .i64 b,.int .i64 c,.int .i64 m,.slice base n cap],.slice bl k cl,.slice pb pn pc] w fun e w'=>e= .returned (.bool mb)/\Ext w w':=by
 have Aj:=(Ext.rfl' w).alloc (.cells #[.int .i64 a,.int .i64 b,.int .i64 c,.int .i64 m,.slice base n cap] 26);have hr:(w.alloc (.cells #[.int .i64 a,.int .i64 b,.int .i64 c,.int .i64 m,.slice base n cap] 26)).heap[w.heap.size]? =some (.cells #[.int .i64 a,.int .i64 b,.int .i64 c,.int .i64 m,.slice base n cap] 26):=(Z3 _ _ _).trans (if_pos rfl);go_enter func32,ntmps32;go_wp2;generalize World.alloc _ _=w1 at Aj hr⊢;go_loopw [7] (fun v7 wr=>∃kw:Nat,kw<=3/\v7= .int .i64 kw/\Ext w wr/\wr.heap[w.heap.size]? =some (.cells #[.int .i64 a,.int .i64 b,.int .i64 c,.int .i64 m,.slice base n cap] 26)/\Hid (MtdT a b c R l kw 0 0)) (fun v7 _=>3 - (intOf v7).toNat)
 case atStart=>exact⟨0,by omega,rfl,Aj,hr,MtdT.start⟩
 case round=>
  clear Aj hr;obtain⟨kw,hkw,rfl,hE,hr,HT⟩:=hrel;by_cases h3:kw=3
  ·subst h3;have hm:mb=true:=Wu.out.2 HT.out.done;subst hm;clear HT;go_wp2;go_ret;exact⟨rfl,hE⟩
  ·have hkw2:(kw:Int)<=2:=by omega
   go_wp2;obtain⟨wo,rfl⟩:∃wo:World,wo=wr:=⟨_,rfl⟩;go_loopw [8] (fun v8 wr=>∃i:Nat,i<=k/\v8= .int .i64 i/\Ext w wr/\wr.heap[w.heap.size]? =some (.cells #[.int .i64 a,.int .i64 b,.int .i64 c,.int .i64 m,.slice base n cap] 26)/\Hid (MtdT a b c R l kw i 0)) (fun v8 _=>k - (intOf v8).toNat)
   case atStart=>exact⟨0,by omega,rfl,hE,hr,HT⟩
   case round=>
    clear hE hr HT;obtain⟨i,hi,rfl,hE,hr,HT⟩:=hrel;by_cases Qc:i=k
    ·subst Qc;have HN:Hid (MtdT a b c R l (kw+1) 0 0):=HT.out.next (by have:=hk.out;omega);clear HT;go_wp2;exact⟨⟨kw+1,by omega,by push_cast;rfl,hE,hr,HN⟩,by simp[intOf];omega⟩
    ·have hil:(i:Int)<(k:Int):=(by omega);go_wp2;obtain⟨wp,rfl⟩:∃wp:World,wp=wr:=⟨_,rfl⟩;go_loopw [9] (fun v9 wr=>∃j:Nat,j<=k/\v9= .int .i64 j/\Ext w wr/\wr.heap[w.heap.size]? =some (.cells #[.int .i64 a,.int .i64 b,.int .i64 c,.int .i64 m,.slice base n cap] 26)/\Hid (MtdT a b c R l kw i j)) (fun v9 _=>k - (intOf v9).toNat)
     case atStart=>exact⟨0,by omega,rfl,hE,hr,HT⟩
     case round=>
      clear hE hr HT;obtain⟨j,hj,rfl,hE,hr,HT⟩:=hrel;by_cases H0:j=k
      ·subst H0;have HN:Hid (MtdT a b c R l kw (i+1) 0):=HT.out.row (by have:=hk.out;omega);clear HT;go_wp2;exact⟨⟨i+1,by omega,by push_cast;rfl,hE,hr,HN⟩,by simp[intOf];omega⟩
      ·have H1:(j:Int)<(k:Int):=(by omega);obtain⟨x,Ll⟩:∃x,l[i]? =some x:=⟨_,List.getElem?_eq_getElem (by have:=hk.out;omega)⟩;obtain⟨y,Lm⟩:∃y,l[j]? =some y:=⟨_,List.getElem?_eq_getElem (by have:=hk.out;omega)⟩;have B5:=Ao.out x (List.mem_of_getElem? Ll);have B1:=Ao.out y (List.mem_of_getElem? Lm);obtain⟨xn,rfl⟩:=Int.eq_ofNat_of_zero_le B5.1;obtain⟨yn,rfl⟩:=Int.eq_ofNat_of_zero_le B1.1;obtain⟨bb,ob,rfl,B4,Uo⟩:=hI.out i _ Ll;obtain⟨b2,o2,e2,Au,Up⟩:=hI.out j _ Lm;obtain⟨rfl,rfl⟩:bb=b2/\ob=o2:=(by simpa using e2);have Gd:=hE.cellS Uo;have Ln:=hE.cellS Up;have Ki:Hid (l[i]? =some (xn:Int)):=Ll;have hyj:Hid (l[j]? =some (yn:Int)):=Lm;clear Ll Lm Uo Up e2 B4 Au;have hrx:=fun W (hW:Ext wr W)=>N9 W xn kw (hE.trans hW) (by omega) (by omega)
       have hry:=fun W (hW:Ext wr W)=>N9 W yn kw (hE.trans hW) (by omega) (by omega)
       have hax:=fun W=>Z6Z a b c m kw (by omega) W
       have Dy:=hRb.out xn kw;have Ie:=hRb.out yn kw;obtain⟨rx,Pa⟩:∃z,z=R xn kw:=⟨_,rfl⟩;obtain⟨ry,Pb⟩:∃z,z=R yn kw:=⟨_,rfl⟩;obtain⟨ax,Pc⟩:∃z,z=alw a b c kw:=⟨_,rfl⟩;rw[<-Pa] at hrx Dy;rw[<-Pb] at hry Ie;rw[<-Pc] at hax;have Lo:Hid (rx=R xn kw):=Pa;have Lp:Hid (ry=R yn kw):=Pb;have Lq:Hid (ax=alw a b c kw):=Pc;clear Pa Pb Pc B5 B1;have Vg:wrap64 (rx - ry)=rx - ry:=Z6a _ (by omega);obtain⟨q0,q1,q2,q3,q4⟩:=Zgj hr;have g0:=Zet q0;have g1:=Zet q1;have g2:=Zet q2;have g3:=Zet q3;have g4:=Zet q4;have gx:=Zet Gd;have gy:=Zet Ln;go_wp2;refine ZeG 22 (by kernel_rfl) ?_;refine ZeB [0,1,2,3,4,5,6,8,9,10,11,12,13,14,17,18,19] (by kernel_rfl) (by kernel_rfl) ?_;simp only[ZeD,List.getElem?_cons_succ,List.getElem?_cons_zero,List.cons_append,List.nil_append]
       repeat (go_big_quiet_step (fail))
       refine wpQuiet_nil ?_;refine ZeX 7 (f:=76) (args:= #[.agg #[.int .i64 a,.int .i64 b,.int .i64 c,.int .i64 m,.slice base n cap],.int .i64 xn,.int .i64 kw,.slice pb pn pc]) (v:= .int .i64 rx) (by kernel_rfl) rfl (by kernel_rfl) rfl (fun W=>by simp[go_sem,execOp,Act.eval]) (hrx) ?_;go_simp;refine ZeX 15 (f:=76) (args:= #[.agg #[.int .i64 a,.int .i64 b,.int .i64 c,.int .i64 m,.slice base n cap],.int .i64 yn,.int .i64 kw,.slice pb pn pc]) (v:= .int .i64 ry) (by kernel_rfl) rfl (by kernel_rfl) rfl (fun W=>by simp[go_sem,execOp,Act.eval]) (hry) ?_;go_simp;refine ZeB [16] (by kernel_rfl) (by kernel_rfl) ?_;simp only[ZeD,List.getElem?_cons_succ,List.getElem?_cons_zero,List.cons_append,List.nil_append]
       repeat (go_big_quiet_step (fail))
       refine wpQuiet_nil ?_;refine ZeX 20 (f:=99) (args:= #[.agg #[.int .i64 a,.int .i64 b,.int .i64 c,.int .i64 m],.int .i64 kw]) (v:= .int .i64 ax) (by kernel_rfl) rfl (by kernel_rfl) rfl (fun W=>by simp[go_sem,execOp,Act.eval]) (fun W _=>hax W) ?_;go_simp;refine ZeB [21] (by kernel_rfl) (by kernel_rfl) ?_;simp only[ZeD,List.getElem?_cons_succ,List.getElem?_cons_zero,List.cons_append,List.nil_append]
       repeat (go_big_quiet_step (fail))
       refine wpQuiet_nil ?_;refine Zf6 (by kernel_rfl) (fun W hW=> ?_);have A6:=hE.trans hW;replace hr:=hW.get hr;clear q0 q1 q2 q3 q4 g0 g1 g2 g3 g4 gx gy Gd Ln hrx hry hax hW hE;by_cases hd:rx - ry<=ax
       ·have R2:¬ax<rx - ry:=(by omega);have HN:Hid (MtdT a b c R l kw i (j+1)):=HT.out.step Ki.out hyj.out (by rw[<-Lo.out,<-Lp.out,<-Lq.out];exact hd);clear HT Lo Lp Lq;go_wp2;exact⟨⟨j+1,by omega,by push_cast;rfl,A6,hr,HN⟩,by simp[intOf];omega⟩
       ·have R2:ax<rx - ry:=(by omega);have hm:mb=false:=by
         cases e:mb with
         |false=>rfl
         |true=>
          have h3:=(Wu.out.1 e) kw (by omega) xn (List.mem_of_getElem? Ki.out) yn (List.mem_of_getElem? hyj.out);rw[Int.toNat_natCast,Int.toNat_natCast,<-Lo.out,<-Lp.out,<-Lq.out] at h3;omega
        subst hm;clear HT Lo Lp Lq;go_wp2;go_ret;exact⟨rfl,A6⟩
theorem Zm6(a b c m:Int)(base:Option Addr)(n cap:Nat)(L:List Sf)(l:List Int)(bl:Option Addr)(k cl:Nat)(pb:Option Addr)(pn pc:Nat)(pk:List Int)(mb:Bool)(w:World)(hs:Zp a b c m L=0)(hL:L.length=n)(hS:RawA w base L)(hk:l.length=k)(Aw:k<=100)(Ao:∀x∈l,0<=x/\x<n)(Wu:mb=true↔Mtd a b c (ZlZ L pk) l)(hI:RawI w bl l)
 (A2:pk.length=pn)(hu:∀x∈pk,0<=x/\x<65536)(hl:RawU w pb pk):
 Calls prog 32 #[.agg #[.int .i64 a,.int .i64 b,.int .i64 c,.int .i64 m,.slice base n cap],.slice bl k cl,.slice pb pn pc] w fun e w'=>e= .returned (.bool mb)/\Ext w w':=by
 have Ba:=ZlF hs;refine Zm5 a b c m base n cap l bl k cl pb pn pc (ZlZ L pk) mb w hk Aw Ao Wu (Zm9 Ba pk).2 hI fun W i k hW hi hk=> ?_
 obtain⟨x,hx⟩:∃x,L[i]? =some x:=⟨_,List.getElem?_eq_getElem (by omega)⟩;obtain⟨bs,off,rfl,hb,sx,_⟩:=(hS.ext hW) i x hx;have h9:=Ba.len;have:=Zma a b c m bs off n cap x i k pb pn pc pk W hb hi (by omega) hk sx (Ba.ok x (List.mem_of_getElem? hx) k) A2 hu (hl.ext hW);rw[ZlZ,hx];exact this
end Go.Proofs.Tryq
namespace Go.Proofs.Tryq
open Go Go.Nk Go.RowKit
set_option linter.all false
theorem flatten_len:∀(S:List (List Int))(k i:Nat),(∀t∈S,t.length<=k)->S.length<=i->S.flatten.length<=k*i
 |[],k,i,_,_=>by simp
 |s::S,k,i,h,hl=>by
  cases i with
  |zero=>simp at hl
  |succ i=>
   have h1:=h s List.mem_cons_self;have h2:=flatten_len S k i (fun t ht=>h t (List.mem_cons_of_mem _ ht)) (by simp at hl;omega);rw[List.flatten_cons,List.length_append,Nat.mul_succ];omega
end Go.Proofs.Tryq
namespace Go.Proofs.Tryq
set_option maxRecDepth 100000
set_option maxHeartbeats 8000000
open Go Go.Nk Go.RowKit
set_option linter.all false
theorem Zmw{F:List (List Int)}(h:F.Pairwise Zmy){i:Nat}{l:List Int}(hl:F[i]? =some l):∀z∈l,z∉(F.take i).flatten:=by
 intro z hz hm;obtain⟨k,hk,hzk⟩:=List.mem_flatten.1 hm;obtain⟨j,hj⟩:=List.mem_iff_getElem?.1 hk;obtain⟨h1,h2⟩:=List.getElem?_eq_some_iff.1 hj;obtain⟨h3,h4⟩:=List.getElem?_eq_some_iff.1 hl;rw[List.length_take] at h1;rw[List.getElem_take] at h2;have:=List.pairwise_iff_getElem.1 h j i (by omega) h3 (by omega);rw[h2,h4] at this;exact this z hzk hz
theorem Zms(a b c:Int)(M:Nat)(base:Option Addr)(n cap:Nat)(F:List (List Int))(ao:Option Addr)(q cp:Nat)(pb:Option Addr)(pn pc:Nat)(w:World)(hq:Hid (F.length=q))(Kw:q<=1000)(hM:1<=M)(Ku:M<=9)(hF:Hid (RawL w ao F))(A2:Hid (∀l∈F,l.length=M))
 (hhd:Hid (∀(i:Nat)(l k:List Int)(x y:Int),F[i]? =some l->F[i+1]? =some k->l[0]? =some x->k[0]? =some y->x<y))(hdis:Hid (F.Pairwise Zmy))
 (Wv:∀l∈F,∀bl cl W,RawI W bl l->Calls prog 40 #[.slice bl M cl,.int .i64 n] W fun e w'=>e= .returned (.int .i64 0)/\Ext W w')
 (h32:∀l∈F,∀bl cl W,Ext w W->RawI W bl l->Calls prog 32 #[.agg #[.int .i64 a,.int .i64 b,.int .i64 c,.int .i64 M,.slice base n cap],.slice bl M cl,.slice pb pn pc] W fun e w'=>e= .returned (.bool true)/\Ext W w'):
 Calls prog 38 #[.agg #[.int .i64 a,.int .i64 b,.int .i64 c,.int .i64 M,.slice base n cap],.slice ao q cp,.slice pb pn pc] w fun e w'=>e= .returned (.bool true)/\Ext w w':=by
 have Aj:=(Ext.rfl' w).alloc (.cells #[.int .i64 a,.int .i64 b,.int .i64 c,.int .i64 M,.slice base n cap] 26);have hr:(w.alloc (.cells #[.int .i64 a,.int .i64 b,.int .i64 c,.int .i64 M,.slice base n cap] 26)).heap[w.heap.size]? =some (.cells #[.int .i64 a,.int .i64 b,.int .i64 c,.int .i64 M,.slice base n cap] 26):=(Z3 _ _ _).trans (if_pos rfl);have Uq:∀N,OwnI N (w.alloc (.cells #[.int .i64 a,.int .i64 b,.int .i64 c,.int .i64 M,.slice base n cap] 26)) (.slice none 0 0) (F.take 0).flatten:=fun N=>World.ownsRow_nil _ _ _ _
 go_enter func38,ntmps38;go_wp2;generalize World.alloc _ _=w1 at Aj hr Uq⊢;obtain⟨N,hN⟩:∃N,N=w.heap.size+1:=⟨_,rfl⟩;replace Uq:=Uq N;go_loopw [7,8] (fun v7 v8 wr=>∃i:Nat,i<=q/\v8= .int .i64 i/\Ext w wr/\wr.heap[w.heap.size]? =some (.cells #[.int .i64 a,.int .i64 b,.int .i64 c,.int .i64 M,.slice base n cap] 26)/\OwnI N wr v7 (F.take i).flatten) (fun _ v8 _=>q - (intOf v8).toNat)
 case atStart=>exact⟨0,by omega,rfl,Aj,hr,Uq⟩
 case round=>
  clear Aj hr Uq;obtain⟨i,hi,rfl,hE,hr,hO⟩:=hrel;by_cases hiq:i=q
  ·subst hiq;go_wp2;go_ret;exact⟨rfl,hE⟩
  ·have hil:(i:Int)<(q:Int):=by omega
   obtain⟨l,Gq⟩:∃l,F[i]? =some l:=⟨_,List.getElem?_eq_getElem (by have:=hq.out;omega)⟩;have Pd:=A2.out l (List.mem_of_getElem? Gq);obtain⟨bF,oF,ad,cl,rfl,_,Hy,_,Vh⟩:=hF.out i l Gq;obtain⟨y,B1⟩:∃y,l[0]? =some y:=⟨_,List.getElem?_eq_getElem (by omega)⟩;have hI:=Vh.ext hE;have Df:=hE.cellS Hy;rw[Pd] at Df;obtain⟨bl,ol,rfl,_,Ln⟩:=hI 0 y B1;rw[Nat.add_zero] at Ln;have hT:Hid ((F.take i).flatten.length<=9000):=by
    show _<=_;have h1:=flatten_len (F.take i) M i (fun t ht=>by rw[A2.out t (List.mem_of_mem_take ht)];exact Nat.le_refl _) (by rw[List.length_take];omega);have h2:M*i<=9*1000:=Nat.mul_le_mul Ku (by omega);omega
   have Fr:Hid (∀z∈l,z∉(F.take i).flatten):=Zmw hdis.out Gq;have hl:Hid (F[i]? =some l):=Gq;have H9:Hid (l.length=M):=Pd;have Na:Hid (l∈F):=List.mem_of_getElem? Gq;obtain⟨Tk,Pe⟩:∃T,T=(F.take i).flatten:=⟨_,rfl⟩;rw[<-Pe] at hO hT Fr;have Ot:Hid (Tk=(F.take i).flatten):=Pe;clear Pe;obtain⟨ta,tc,rfl,_,_⟩:=hO.rawI;clear Pd Hy Vh;obtain⟨q0,q1,q2,q3,q4⟩:=Zgj hr;have g0:=Zet q0;have g1:=Zet q1;have g2:=Zet q2;have g3:=Zet q3;have g4:=Zet q4;by_cases h00:i=0
   ·subst h00;clear Gq B1 Ln;simp only[Nat.add_zero] at Df;go_wp2;refine ZeG 38 (by kernel_rfl) ?_;refine ZeB [0,1,2,3] (by kernel_rfl) (by kernel_rfl) ?_;simp only[ZeD,List.getElem?_cons_succ,List.getElem?_cons_zero,List.cons_append,List.nil_append]
    repeat (go_big_quiet_step (fail))
    refine wpQuiet_nil ?_;refine ZeX 4 (f:=40) (args:= #[.slice (some ⟨bl,ol,none⟩) M cl,.int .i64 n]) (v:= .int .i64 0) (by kernel_rfl) rfl (by kernel_rfl) rfl (fun W=>by simp[go_sem,execOp,Act.eval]) (fun W hW=>Wv l Na.out _ _ W (hI.ext hW)) ?_;go_simp;refine ZeB [5,6,7,8,9,10,11,12,13,14,15,16,17] (by kernel_rfl) (by kernel_rfl) ?_;simp only[ZeD,List.getElem?_cons_succ,List.getElem?_cons_zero,List.cons_append,List.nil_append]
    repeat (go_big_quiet_step (fail))
    refine wpQuiet_nil ?_;refine ZeX 18 (f:=32) (args:= #[.agg #[.int .i64 a,.int .i64 b,.int .i64 c,.int .i64 M,.slice base n cap],.slice (some ⟨bl,ol,none⟩) M cl,.slice pb pn pc]) (v:= .bool true) (by kernel_rfl) rfl (by kernel_rfl) rfl (fun W=>by simp[go_sem,execOp,Act.eval]) (fun W hW=>h32 l Na.out _ _ W (hE.trans hW) (hI.ext hW)) ?_;go_simp;refine ZeB [19,20,21,22,23,24,25,26,27,28,29,30,31,32,33,34,35,36,37] (by kernel_rfl) (by kernel_rfl) ?_;simp only[ZeD,List.getElem?_cons_succ,List.getElem?_cons_zero,List.cons_append,List.nil_append]
    repeat (go_big_quiet_step (fail))
    refine wpQuiet_nil ?_;refine Zf6 (by kernel_rfl) (fun W hW=> ?_);have A6:=hE.trans hW;replace hr:=hW.get hr;replace hO:=hO.ext hW;replace hI:=hI.ext hW;clear q0 q1 q2 q3 q4 g0 g1 g2 g3 g4 hW hE Df;have Pf:N<=W.heap.size:=(by have:=Z5 hr;omega);go_wp2;obtain⟨wo,rfl⟩:∃wo:World,wo=W:=⟨_,rfl⟩;go_loopw [10] (fun v10 wr=>∃j:Nat,j<=M/\v10= .int .i64 j/\Ext w wr/\wr.heap[w.heap.size]? =some (.cells #[.int .i64 a,.int .i64 b,.int .i64 c,.int .i64 M,.slice base n cap] 26)/\OwnI N wr (.slice ta Tk.length tc) Tk/\RawI wr (some ⟨bl,ol,none⟩) l) (fun v10 _=>M - (intOf v10).toNat)
    case atStart=>exact⟨0,by omega,rfl,A6,hr,hO,hI⟩
    case round=>
     clear A6 hr hO hI Pf;obtain⟨j,hj,rfl,hE,hr,hO,hI⟩:=hrel;by_cases Ur:j=M
     ·subst Ur;have Pf:N<=wr.heap.size:=(by have:=Z5 hr;omega);have HN:Hid ((F.take (0+1)).flatten=Tk++l):=by show _=_;rw[Z0G hl.out,List.flatten_append,Ot.out];simp
      go_wp2_with (
       at_builtin
       refine wpList_plain rfl fun K hK=> ?_
       refine Zhm _ _ rfl N _ Tk rfl hO (some ⟨bl,ol,none⟩) cl l (by simp[go_sem,Act.eval,H9.out]) (by intro h;cases h) hI (by have:=hT.out;have:=H9.out;omega) Pf (fun v6 W6 own6 Us=>hK _ _ ?_);have C8:=hE.grown Us (fun k hk=>by have:=(hO.lt k hk).1;omega);have hr6:=(Us.block w.heap.size (Z5 hr) (by intro h;have:=(hO.lt _ h.symm).1;omega)).trans hr)
      exact⟨⟨0+1,by omega,by push_cast;rfl,C8,hr6,by rw[HN.out];exact own6⟩,by simp[intOf];omega⟩
     ·have H1:(j:Int)<(M:Int):=(by omega);obtain⟨z,hz⟩:∃z,l[j]? =some z:=⟨_,List.getElem?_eq_getElem (by have:=H9.out;omega)⟩;obtain⟨b2,o2,e2,_,hcz⟩:=hI j z hz;obtain⟨rfl,rfl⟩:bl=b2/\ol=o2:=(by simpa using e2);have Cj:=Fr.out z (List.mem_of_getElem? hz);obtain⟨ta2,tc2,e3,Ut,_⟩:=hO.rawI;obtain⟨rfl,rfl⟩:ta=ta2/\tc=tc2:=(by simpa using e3);have hh:=Zhj ta Tk.length tc Tk z wr rfl (by have:=hT.out;omega) Ut;rw[decide_eq_false Cj] at hh;clear hz e2 e3 Ut Cj
      go_wp2_with (first|(go_at_call 39;refine hh.mono ?_;rintro e w5 ⟨rfl,Lr⟩
                          have B8:=hE.trans Lr;have Lb:=Lr.get hr;have hO5:=hO.ext Lr;have hI5:=hI.ext Lr))
      exact⟨⟨j+1,by omega,by push_cast;rfl,B8,Lb,hO5,hI5⟩,by simp[intOf];omega⟩
   ·obtain⟨i0,Pg⟩:∃i0,i=i0+1:=⟨i - 1,by omega⟩;have C7:Hid (i=i0+1):=Pg;rw[Pg] at Gq;have h0i:0<i:=(by omega);have Hk:wrap64 ((i:Int) - 1)=(i0:Int):=(by rw[Z6a _ (by omega)];omega);have hi0q:(i0:Int)<(q:Int):=(by omega);have Uu:i0=i - 1:=(by omega);clear Pg h00;obtain⟨k,Kx⟩:∃k,F[i0]? =some k:=⟨_,List.getElem?_eq_getElem (by have:=hq.out;have:=C7.out;omega)⟩;obtain⟨x,B5⟩:∃x,k[0]? =some x:=⟨_,List.getElem?_eq_getElem (by have:=A2.out k (List.mem_of_getElem? Kx);omega)⟩;have Bi:=hhd.out i0 k l x y Kx Gq B5 B1;have B9:¬y<=x:=(by omega);obtain⟨bF2,oF2,ad2,cl2,e2,_,Hz,_,hK0⟩:=hF.out i0 k Kx;obtain⟨rfl,rfl⟩:bF=bF2/\oF=oF2:=(by simpa using e2);have Bf:=hE.cellS Hz;rw[Uu] at Bf;clear Uu;rw[A2.out k (List.mem_of_getElem? Kx)] at Bf;obtain⟨bk,ok,rfl,_,Gd⟩:=(hK0.ext hE) 0 x B5;rw[Nat.add_zero] at Gd;clear Kx B5 Gq B1 hK0 Hz e2 Bi;have gk:=Zet Bf;have gx:=Zet Gd;have gy:=Zet Ln;have M8:(0:Int)<(M:Int):=(by omega);go_wp2;refine ZeG 38 (by kernel_rfl) ?_;refine ZeB [0,1,2,3] (by kernel_rfl) (by kernel_rfl) ?_;simp only[ZeD,List.getElem?_cons_succ,List.getElem?_cons_zero,List.cons_append,List.nil_append]
    repeat (go_big_quiet_step (fail))
    refine wpQuiet_nil ?_;refine ZeX 4 (f:=40) (args:= #[.slice (some ⟨bl,ol,none⟩) M cl,.int .i64 n]) (v:= .int .i64 0) (by kernel_rfl) rfl (by kernel_rfl) rfl (fun W=>by simp[go_sem,execOp,Act.eval]) (fun W hW=>Wv l Na.out _ _ W (hI.ext hW)) ?_;go_simp;refine ZeB [5,6,7,8,9,10,11,12,13,14,15,16,17] (by kernel_rfl) (by kernel_rfl) ?_;simp only[ZeD,List.getElem?_cons_succ,List.getElem?_cons_zero,List.cons_append,List.nil_append]
    repeat (go_big_quiet_step (fail))
    refine wpQuiet_nil ?_;refine ZeX 18 (f:=32) (args:= #[.agg #[.int .i64 a,.int .i64 b,.int .i64 c,.int .i64 M,.slice base n cap],.slice (some ⟨bl,ol,none⟩) M cl,.slice pb pn pc]) (v:= .bool true) (by kernel_rfl) rfl (by kernel_rfl) rfl (fun W=>by simp[go_sem,execOp,Act.eval]) (fun W hW=>h32 l Na.out _ _ W (hE.trans hW) (hI.ext hW)) ?_;go_simp;refine ZeB [19,20,21,22,23,24,25,26,27,28,29,30,31,32,33,34,35,36,37] (by kernel_rfl) (by kernel_rfl) ?_;simp only[ZeD,List.getElem?_cons_succ,List.getElem?_cons_zero,List.cons_append,List.nil_append]
    repeat (go_big_quiet_step (fail))
    refine wpQuiet_nil ?_;refine Zf6 (by kernel_rfl) (fun W hW=> ?_);have A6:=hE.trans hW;replace hr:=hW.get hr;replace hO:=hO.ext hW;replace hI:=hI.ext hW;clear q0 q1 q2 q3 q4 g0 g1 g2 g3 g4 hW hE Df Bf Gd Ln gk gx gy Hk h0i hi0q M8;have Pf:N<=W.heap.size:=(by have:=Z5 hr;omega);go_wp2;obtain⟨wo,rfl⟩:∃wo:World,wo=W:=⟨_,rfl⟩;go_loopw [10] (fun v10 wr=>∃j:Nat,j<=M/\v10= .int .i64 j/\Ext w wr/\wr.heap[w.heap.size]? =some (.cells #[.int .i64 a,.int .i64 b,.int .i64 c,.int .i64 M,.slice base n cap] 26)/\OwnI N wr (.slice ta Tk.length tc) Tk/\RawI wr (some ⟨bl,ol,none⟩) l) (fun v10 _=>M - (intOf v10).toNat)
    case atStart=>exact⟨0,by omega,rfl,A6,hr,hO,hI⟩
    case round=>
     clear A6 hr hO hI Pf;obtain⟨j,hj,rfl,hE,hr,hO,hI⟩:=hrel;by_cases Ur:j=M
     ·subst Ur;have Pf:N<=wr.heap.size:=(by have:=Z5 hr;omega);have HN:Hid ((F.take (i+1)).flatten=Tk++l):=by show _=_;rw[Z0G hl.out,List.flatten_append,Ot.out];simp
      go_wp2_with (
       at_builtin
       refine wpList_plain rfl fun K hK=> ?_
       refine Zhm _ _ rfl N _ Tk rfl hO (some ⟨bl,ol,none⟩) cl l (by simp[go_sem,Act.eval,H9.out]) (by intro h;cases h) hI (by have:=hT.out;have:=H9.out;omega) Pf (fun v6 W6 own6 Us=>hK _ _ ?_);have C8:=hE.grown Us (fun k hk=>by have:=(hO.lt k hk).1;omega);have hr6:=(Us.block w.heap.size (Z5 hr) (by intro h;have:=(hO.lt _ h.symm).1;omega)).trans hr)
      exact⟨⟨i+1,by omega,by push_cast;rfl,C8,hr6,by rw[HN.out];exact own6⟩,by simp[intOf];omega⟩
     ·have H1:(j:Int)<(M:Int):=(by omega);obtain⟨z,hz⟩:∃z,l[j]? =some z:=⟨_,List.getElem?_eq_getElem (by have:=H9.out;omega)⟩;obtain⟨b2,o2,e2,_,hcz⟩:=hI j z hz;obtain⟨rfl,rfl⟩:bl=b2/\ol=o2:=(by simpa using e2);have Cj:=Fr.out z (List.mem_of_getElem? hz);obtain⟨ta2,tc2,e3,Ut,_⟩:=hO.rawI;obtain⟨rfl,rfl⟩:ta=ta2/\tc=tc2:=(by simpa using e3);have hh:=Zhj ta Tk.length tc Tk z wr rfl (by have:=hT.out;omega) Ut;rw[decide_eq_false Cj] at hh;clear hz e2 e3 Ut Cj
      go_wp2_with (first|(go_at_call 39;refine hh.mono ?_;rintro e w5 ⟨rfl,Lr⟩
                          have B8:=hE.trans Lr;have Lb:=Lr.get hr;have hO5:=hO.ext Lr;have hI5:=hI.ext Lr))
      exact⟨⟨j+1,by omega,by push_cast;rfl,B8,Lb,hO5,hI5⟩,by simp[intOf];omega⟩
end Go.Proofs.Tryq
