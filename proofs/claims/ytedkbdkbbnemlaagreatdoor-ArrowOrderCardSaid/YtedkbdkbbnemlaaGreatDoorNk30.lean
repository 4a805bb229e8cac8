import Derived.Test.YtedkbdkbbnemlaaGreatDoorNk29
import Derived.Deep.AppendLies
set_option linter.all false
namespace Go.Proofs.Tryq
open Go Go.Nk Go.RowKit
set_option linter.all false
def Zk7(r0 r1 r2 r3:Int)(S:List Rs)(i:Nat):Bool:=(List.range 91).any fun d=>atF (cvS r0 r1 r2 r3 (S.map Ze)) (2 ^ S.length - 1) d S.length !=atF (cvS r0 r1 r2 r3 (S.map Ze)) ((2 ^ S.length - 1 - 2 ^ i:Nat):Int) d S.length
def matQ(r0 r1 r2 r3:Int)(S:List Rs)(i:Nat):Bool:=(S.length==1)||(List.range 91).any fun d=>Z57 r0 r1 r2 r3 S d ((upL S.length).eraseIdx i) !=Z57 r0 r1 r2 r3 S d (upL S.length)
theorem setL_less_all:(List.range 9).all (fun n=>(List.range n).all fun i=>ZN (2 ^ n - 1 - 2 ^ i)==(upL n).eraseIdx i)=true:=by kernel_rfl
theorem Zkb{n i:Nat}(hn:n<=8)(hi:i<n):ZN (2 ^ n - 1 - 2 ^ i)=(upL n).eraseIdx i:=by
 simpa using List.all_eq_true.1 (List.all_eq_true.1 setL_less_all n (List.mem_range.2 (by omega))) i (List.mem_range.2 hi)
theorem Zk8{n i:Nat}{p:Int}(hp:p∈(upL n).eraseIdx i):0<=p/\p<n:=mem_upL.1 ((List.eraseIdx_sublist _ _).subset hp)
theorem Zk6{n i:Nat}(hn:1<n)(hi:i<n):(upL n).eraseIdx i≠[]:=by
 have h:((upL n).eraseIdx i).length=n - 1:=by rw[List.length_eraseIdx,Zj5,if_pos hi]
 intro e;rw[e] at h;simp at h;omega
section
variable {r0 r1 r2 r3:Int} {S:List Rs} (hg:Fine r0 r1 r2 r3 S)
include hg
theorem Fine.mat{i:Nat}(hi:i<S.length):Zk7 r0 r1 r2 r3 S i=matQ r0 r1 r2 r3 S i:=by
 have h8:=hg.le8
 have hm:∀d,d<=90->atF (cvS r0 r1 r2 r3 (S.map Ze)) (2 ^ S.length - 1) d S.length=Z57 r0 r1 r2 r3 S d (upL S.length):=fun d hd=>by
  rw[<-hg.mark_span (d:=(d:Int)) (by omega),Z4L,Int.toNat_natCast]
 rw[Bool.eq_iff_iff,Zk7,matQ,List.any_eq_true,Bool.or_eq_true,List.any_eq_true];by_cases h1:S.length=1
 ·refine⟨fun _=> .inl (by rw[h1];rfl),fun _=>⟨0,List.mem_range.2 (by omega),?_⟩⟩;have Cd:i=0:=by omega
  have hb:=hg.inB (d:=0) (by omega);rw[hm 0 (by omega),show((0:Nat):Int)=0 from rfl,<-hg.mark_span (d:=0) (by omega),h1,Cd];have e:atF (cvS r0 r1 r2 r3 (S.map Ze)) ((2 ^ 1 - 1 - 2 ^ 0:Nat):Int) 0 1=(-1099511627776,1099511627776):=by
   rw[atF,show has ((2 ^ 1 - 1 - 2 ^ 0:Nat):Int) 0=false by kernel_rfl,if_neg (by decide)];rfl
  rw[e,bne_iff_ne];intro e2;rw[e2] at hb;simp only at hb;omega
 ·have D6:=hg.pos;have hs:=Zkb h8 hi;have A8:=Zk6 (n:=S.length) (i:=i) (by omega) hi
  have hq:∀d,d<=90->atF (cvS r0 r1 r2 r3 (S.map Ze)) ((2 ^ S.length - 1 - 2 ^ i:Nat):Int) d S.length=Z57 r0 r1 r2 r3 S d ((upL S.length).eraseIdx i):=fun d hd=>by
   have hp:=Nat.two_pow_pos S.length;have Hk:=Nat.two_pow_pos i;rw[ZaE hg.ok (k:=2 ^ S.length - 1 - 2 ^ i) (by omega) (by rw[hs];exact A8) hd,hs]
  constructor
  ·rintro⟨d,hd,h⟩;have Tz:=List.mem_range.1 hd;rw[hm d (by omega),hq d (by omega)] at h;exact .inr ⟨d,hd,by rw[bne_iff_ne] at h⊢;exact fun e=>h e.symm⟩
  ·rintro(h|⟨d,hd,h⟩)
   ·exact absurd (by simpa using h) h1
   ·have Tz:=List.mem_range.1 hd;refine⟨d,hd,?_⟩;rw[hm d (by omega),hq d (by omega)];rw[bne_iff_ne] at h⊢;exact fun e=>h e.symm
theorem Fine.same{T:List Rs}(hl:T.length<=8)(hT:∀s,s∈T↔s∈S):Fine r0 r1 r2 r3 T:=by
 have hc:=Zjm hg.cf hl fun t ht=>(hT t).1 ht
 refine⟨hc,fun e=> ?_,?_⟩
 ·obtain⟨s,hs⟩:=List.exists_mem_of_ne_nil _ hg.ne;have:=(hT s).2 hs;rw[e] at this;cases this
 ·show Zj8 r0 r1 r2 r3 T=true;rw[Zjn (Zav hc)];exact fun s hs t ht=>hg.pf ((hT s).1 hs) ((hT t).1 ht)
theorem Fine.same_mark{T:List Rs}(hl:T.length<=8)(hT:∀s,s∈T↔s∈S){d:Int}(hd:0<=d/\d<=90):Z4L r0 r1 r2 r3 T d=Z4L r0 r1 r2 r3 S d:=by
 have ht:=hg.same hl hT;refine Prod.ext (Zc2 fun x=> ?_) (Zc3 fun x=> ?_)
 ·rw[ht.lo hd,hg.lo hd];exact⟨fun h s hs=>h s ((hT s).2 hs),fun h s hs=>h s ((hT s).1 hs)⟩
 ·rw[ht.hi hd,hg.hi hd];exact⟨fun h s hs=>h s ((hT s).2 hs),fun h s hs=>h s ((hT s).1 hs)⟩
theorem Fine.som{l:List Int}(hl:∀i∈l,0<=i/\i<S.length)(h8:l.length<=8)(h0:l≠[]):Fine r0 r1 r2 r3 (ZR S l):=by
 refine⟨Zjc hg.cf hl h8,fun e=>h0 (List.eq_nil_of_length_eq_zero (by rw[<-Zj2 hl,e];rfl)),?_⟩;show Zj8 r0 r1 r2 r3 (ZR S l)=true;rw[Zjq hg.cf hl h8];exact Zj3 hg.cf (fun p hp=>mem_upL.1 hp) (fun i hi=>mem_upL.2 (hl i hi)) hg.ft
theorem Fine.som_mark{l:List Int}(hl:∀i∈l,0<=i/\i<S.length)(h8:l.length<=8)(h0:l≠[]){d:Int}(hd:0<=d/\d<=90):Z4L r0 r1 r2 r3 (ZR S l) d=Z57 r0 r1 r2 r3 S d l:=by
 have ht:=hg.som hl h8 h0;have key:∀i∈l,∀s,S[i.toNat]? =some s->Tryq.fromS r0 r1 r2 r3 S d i=spV r0 r1 r2 r3 s d:=by
  intro i hi s hs;have:=hg.fromS hd (i:=i.toNat) hs
  rwa [Int.toNat_of_nonneg (hl i hi).1] at this
 have hex:∀i∈l,∃s,S[i.toNat]? =some s:=fun i hi=>⟨_,List.getElem?_eq_getElem (by have:=hl i hi;omega)⟩
 refine Prod.ext (Zc2 fun x=> ?_) (Zc3 fun x=> ?_)
 ·rw[ht.lo hd,ZaD h0];constructor
  ·intro h i hi;obtain⟨s,hs⟩:=hex i hi;rw[key i hi s hs];exact h s (somS_mem.2 ⟨i,hi,hs⟩)
  ·intro h s hs;obtain⟨i,hi,hs⟩:=somS_mem.1 hs;rw[<-key i hi s hs];exact h i hi
 ·rw[ht.hi hd,Z6V h0];constructor
  ·intro h i hi;obtain⟨s,hs⟩:=hex i hi;rw[key i hi s hs];exact h s (somS_mem.2 ⟨i,hi,hs⟩)
  ·intro h s hs;obtain⟨i,hi,hs⟩:=somS_mem.1 hs;rw[<-key i hi s hs];exact h i hi
theorem Fine.matters{k:Nat}(hk:k<S.length)(h2:1<S.length):Zk7 r0 r1 r2 r3 S k=true↔∃d:Nat,d<=90/\Z4L r0 r1 r2 r3 S d≠Z4L r0 r1 r2 r3 (ZR S ((upL S.length).eraseIdx k)) d:=by
 have h8:=hg.le8;have hl:∀i∈(upL S.length).eraseIdx k,0<=i/\i<S.length:=fun i hi=>Zk8 hi
 have Ca:((upL S.length).eraseIdx k).length<=8:=by rw[List.length_eraseIdx,Zj5];split<;>omega
 rw[hg.mat hk,matQ,Bool.or_eq_true,List.any_eq_true];constructor
 ·rintro(h|⟨d,hd,h⟩)
  ·exact absurd (by simpa using h) (by omega:S.length≠1)
  ·have Tz:=List.mem_range.1 hd;refine⟨d,by omega,?_⟩;rw[hg.som_mark hl Ca (Zk6 h2 hk) (by omega),hg.mark_span (by omega)];exact fun e=>(bne_iff_ne.1 h) e.symm
 ·rintro⟨d,hd,h⟩;refine .inr ⟨d,List.mem_range.2 (by omega),?_⟩;rw[hg.som_mark hl Ca (Zk6 h2 hk) (by omega),hg.mark_span (by omega)] at h;exact bne_iff_ne.2 fun e=>h e.symm
end
end Go.Proofs.Tryq
namespace Go.Proofs.Tryq
set_option maxRecDepth 100000
set_option maxHeartbeats 4000000
open Go Go.Nk Go.RowKit
set_option linter.all false
def ZjZ(r0 r1 r2 r3:Int)(S:List Rs):Int:=if ZC r0 r1 r2 r3 S=0 then Z1r r0 r1 r2 r3 (S.map Ze) else ZC r0 r1 r2 r3 S
def Zk0(r0 r1 r2 r3:Int)(S:List Rs)(i:Nat):List Int:=((List.range i).filter (Zk7 r0 r1 r2 r3 S)).map fun(i:Nat)=>(i:Int)
def ZjY(r0 r1 r2 r3:Int)(S:List Rs):List Int:=if ZjZ r0 r1 r2 r3 S=0 then Zk0 r0 r1 r2 r3 S S.length else[]
theorem Zk1(r0 r1 r2 r3:Int)(S:List Rs)(i:Nat):Zk0 r0 r1 r2 r3 S (i+1)=Zk0 r0 r1 r2 r3 S i++(if Zk7 r0 r1 r2 r3 S i then[(i:Int)] else[]):=by
 unfold Zk0;rw[List.range_succ,List.filter_append,List.map_append];congr 1;cases h:Zk7 r0 r1 r2 r3 S i<;>simp[h]
theorem Zkc(r0 r1 r2 r3:Int)(S:List Rs)(i:Nat):(Zk0 r0 r1 r2 r3 S i).length<=i:=by
 have:=List.length_filter_le (Zk7 r0 r1 r2 r3 S) (List.range i);simpa[Zk0] using this
theorem less_mask_all:(List.range 9).all (fun n=>(List.range n).all fun i=>bits .andNot .i64 ((2:Int) ^ n - 1) (wrap64 (2 ^ i))==((2 ^ n - 1 - 2 ^ i:Nat):Int))=true:=by kernel_rfl
theorem Zk9(r0 r1 r2 r3:Int)(base:Option Addr)(n cap:Nat)(S:List Rs)(w:World)(A1:S.length=n)(hS:RawS w base S)(hm:Most w):
 Calls prog 81 #[.agg #[.int .i64 r0,.int .i64 r1,.int .i64 r2,.int .i64 r3,.slice base n cap]] w fun e w'=>∃v,e= .returned (.tuple #[v,.int .i64 (ZjZ r0 r1 r2 r3 S)])/\OwnI w.heap.size w' v (ZjY r0 r1 r2 r3 S)/\Ext w w':=by
 have C0:=Z0U r0 r1 r2 r3 base n cap S;simp only[Zh] at C0;have hb:(w.alloc (.cells #[.int .i64 r0,.int .i64 r1,.int .i64 r2,.int .i64 r3,.slice base n cap] 70)).heap[w.heap.size]? =some (.cells #[.int .i64 r0,.int .i64 r1,.int .i64 r2,.int .i64 r3,.slice base n cap] 70):=by rw[Z3,if_pos rfl]
 have Af:Ext w _:=(Ext.rfl' w).alloc (.cells #[.int .i64 r0,.int .i64 r1,.int .i64 r2,.int .i64 r3,.slice base n cap] 70);have Co:=C0 _ A1 (hS.ext Af);clear C0;by_cases Bf:ZC r0 r1 r2 r3 S=0
 ·obtain⟨_,h8,By⟩:=Z0i Bf;have hF:Hid (ZjZ r0 r1 r2 r3 S=Z1r r0 r1 r2 r3 (S.map Ze)):=if_pos Bf;rw[Bf] at Co;clear Bf;have C7:(S.map Ze).length=n:=by rw[List.length_map,A1]
  have Ca:n<=8:=by omega
  have Gw:=fun w hS=>Z2c r0 r1 r2 r3 base cap w (S.map Ze) n C7 Ca hS
  have He:=Z2Z Ca;have Bz:=fun B p w hm hC=>Z7j r0 r1 r2 r3 (.slice base n cap) B n (2 ^ n - 1) p (cvS r0 r1 r2 r3 (S.map Ze)) Ca He w hm hC
  have Bb:=fun v w=>Z08 r0 r1 r2 r3 base n cap v Ca w
  simp only[Zh] at Gw;have Tq:Hid (Z1r r0 r1 r2 r3 (S.map Ze)=if Zz (cvS r0 r1 r2 r3 (S.map Ze)) (2 ^ n - 1) n then 0 else 10):=by show _=_;rw[Z1r,C7]
  generalize Zz (cvS r0 r1 r2 r3 (S.map Ze)) (2 ^ n - 1) n=fb at Bz Tq;have C5:((2:Int) ^ S.length - 1)=2 ^ n - 1:=by rw[A1]
  have Kj:Hid (∀i,Zk7 r0 r1 r2 r3 S i=(List.range 91).any fun d=>atF (cvS r0 r1 r2 r3 (S.map Ze)) (2 ^ n - 1) d n !=atF (cvS r0 r1 r2 r3 (S.map Ze)) ((2 ^ n - 1 - 2 ^ i:Nat):Int) d n):=fun i=>by rw[Zk7,A1]
  have Ts:=A1;replace A1:Hid (S.length=n):=A1;cases fb
  ·have hR:Hid (ZjZ r0 r1 r2 r3 S=10):=by show _=_;rw[hF.out,Tq.out];rfl
   have hL:Hid (ZjY r0 r1 r2 r3 S=[]):=if_neg (by rw[hR.out];decide);clear hF Tq Ts C5 Kj;go_enter func81,ntmps81;go_wp2;refine wp_scope_straight ?_
   go_wp2_with (first
    |(go_at_call 62;refine Co.mono ?_;rintro e w2 ⟨rfl,A7⟩;have Ai:=Af.trans A7;have A9:=A7.get hb;have q0:=Z0 A9 0;have q1:=Z0 A9 1;have q2:=Z0 A9 2;have q3:=Z0 A9 3;have q4:=Z0 A9 4;simp only[List.getElem?_toArray,List.getElem?_cons_zero,List.getElem?_cons_succ] at q0 q1 q2 q3 q4)
    |(go_at_call 123;refine(Gw _ (Z4J (hS.ext Ai) By)).mono ?_;rintro e w3 ⟨B,p,rfl,Am,hC,_,_⟩;have B5:=Ai.trans Am
      clear q0 q1 q2 q3 q4)
    |(go_at_call 106;refine(Bb _ _).mono ?_;rintro e w5 ⟨rfl,C1⟩
      have hE:=(B5.alloc (.cells #[.int .i64 r0,.int .i64 r1,.int .i64 r2,.int .i64 r3,.slice base n cap,.slice (some ⟨B,0,none⟩) n n] 146)).trans C1;have hx:=C1.get ((Z3 w3 (.cells #[.int .i64 r0,.int .i64 r1,.int .i64 r2,.int .i64 r3,.slice base n cap,.slice (some ⟨B,0,none⟩) n n] 146) w3.heap.size).trans (if_pos rfl));have hr:=(((Ext.rfl' w3).alloc (.cells #[.int .i64 r0,.int .i64 r1,.int .i64 r2,.int .i64 r3,.slice base n cap,.slice (some ⟨B,0,none⟩) n n] 146)).trans C1).get (Am.get A9);replace hC:=(hC.ext ((Ext.rfl' w3).alloc (.cells #[.int .i64 r0,.int .i64 r1,.int .i64 r2,.int .i64 r3,.slice base n cap,.slice (some ⟨B,0,none⟩) n n] 146))).ext C1;have x0:=Z0 hx 0;have x1:=Z0 hx 1;have x2:=Z0 hx 2;have x3:=Z0 hx 3;have x4:=Z0 hx 4;have x5:=Z0 hx 5;simp only[List.getElem?_toArray,List.getElem?_cons_zero,List.getElem?_cons_succ] at x0 x1 x2 x3 x4 x5)
    |(go_at_call 124;refine(Bz _ _ _ (hm.ext hE) hC).mono ?_;rintro e w6 ⟨rfl,Lh⟩
      replace hE:=hE.trans Lh;replace hx:=Lh.get hx;replace hr:=Lh.get hr;replace hC:=hC.ext Lh;clear x0 x1 x2 x3 x4 x5;have y4:=Z0 hr 4;simp only[List.getElem?_toArray,List.getElem?_cons_zero,List.getElem?_cons_succ] at y4))
   rw[Exit.noGoto_ret];refine bodyPost_ret (results_tmp2 rfl _ _ _) rfl ?_;exact⟨.slice none 0 0,by rw[hR.out];rfl,by rw[hL.out];exact World.ownsRow_nil _ _ _ _,hE⟩
  ·have hR:Hid (ZjZ r0 r1 r2 r3 S=0):=by show _=_;rw[hF.out,Tq.out];rfl
   have hL:Hid (ZjY r0 r1 r2 r3 S=Zk0 r0 r1 r2 r3 S n):=by show _=_;rw[ZjY,if_pos hR.out,Ts]
   have hat:=fun(B:Nat)(p:Nat->Nat)(set:Int)(d:Nat)(hs:0<=set/\set<256)(hd:d<=90)(W:World)(hm:Most W)(hC:Cv W B n p (cvS r0 r1 r2 r3 (S.map Ze)))=>Z2Y r0 r1 r2 r3 (.slice base n cap) B n d set p _ Ca hd hs W hm hC
   clear hF Tq Ts C5
   have Ml:∀i:Nat,0<=((2 ^ n - 1 - 2 ^ i:Nat):Int)/\((2 ^ n - 1 - 2 ^ i:Nat):Int)<256:=fun i=>by
    have h1:2 ^ n<=2 ^ 8:=Nat.pow_le_pow_right (by omega) Ca;have h3:2 ^ n - 1 - 2 ^ i<=2 ^ n - 1:=Nat.sub_le _ _;have h4:=Nat.two_pow_pos n;generalize 2 ^ n - 1 - 2 ^ i=z at h3⊢;omega
   obtain⟨F1,Gd⟩:∃F:Nat->Int×Int,F=fun d=>atF (cvS r0 r1 r2 r3 (S.map Ze)) (2 ^ n - 1) d n:=⟨_,rfl⟩
   obtain⟨F2,A0⟩:∃F:Nat->Nat->Int×Int,F=fun i d=>atF (cvS r0 r1 r2 r3 (S.map Ze)) ((2 ^ n - 1 - 2 ^ i:Nat):Int) d n:=⟨_,rfl⟩
   replace Kj:Hid (∀i,Zk7 r0 r1 r2 r3 S i=(List.range 91).any fun d=>F1 d !=F2 i d):=by rw[Gd,A0];exact Kj
   have Ou:=fun(B:Nat)(p:Nat->Nat)(d:Nat)(hd:d<=90)(W:World) hm hC=>hat B p (2 ^ n - 1) d He hd W hm hC
   have Ov:=fun(B:Nat)(p:Nat->Nat)(i d:Nat)(hd:d<=90)(W:World) hm hC=>hat B p ((2 ^ n - 1 - 2 ^ i:Nat):Int) d (Ml i) hd W hm hC
   replace Ou:∀(B:Nat)(p:Nat->Nat)(d:Nat),d<=90->∀W,Most W->Cv W B n p (cvS r0 r1 r2 r3 (S.map Ze))->Calls prog 105 #[.agg #[.int .i64 r0,.int .i64 r1,.int .i64 r2,.int .i64 r3,.slice base n cap,.slice (some ⟨B,0,none⟩) n n],.int .i64 (2 ^ n - 1),.int .i64 d] W fun e w''=>e= .returned (.agg #[.int .i64 (F1 d).1,.int .i64 (F1 d).2])/\Ext W w'':=by rw[Gd];exact Ou
   replace Ov:∀(B:Nat)(p:Nat->Nat)(i d:Nat),d<=90->∀W,Most W->Cv W B n p (cvS r0 r1 r2 r3 (S.map Ze))->Calls prog 105 #[.agg #[.int .i64 r0,.int .i64 r1,.int .i64 r2,.int .i64 r3,.slice base n cap,.slice (some ⟨B,0,none⟩) n n],.int .i64 ((2 ^ n - 1 - 2 ^ i:Nat):Int),.int .i64 d] W fun e w''=>e= .returned (.agg #[.int .i64 (F2 i d).1,.int .i64 (F2 i d).2])/\Ext W w'':=by rw[A0];exact Ov
   clear Gd A0 hat Ml;go_enter func81,ntmps81;go_wp2;refine wp_scope_straight ?_
   go_wp2_with (first
    |(go_at_call 62;refine Co.mono ?_;rintro e w2 ⟨rfl,A7⟩;have Ai:=Af.trans A7;have A9:=A7.get hb;have q0:=Z0 A9 0;have q1:=Z0 A9 1;have q2:=Z0 A9 2;have q3:=Z0 A9 3;have q4:=Z0 A9 4;simp only[List.getElem?_toArray,List.getElem?_cons_zero,List.getElem?_cons_succ] at q0 q1 q2 q3 q4)
    |(go_at_call 123;refine(Gw _ (Z4J (hS.ext Ai) By)).mono ?_;rintro e w3 ⟨B,p,rfl,Am,hC,_,_⟩;have B5:=Ai.trans Am
      clear q0 q1 q2 q3 q4)
    |(go_at_call 106;refine(Bb _ _).mono ?_;rintro e w5 ⟨rfl,C1⟩
      have hE:=(B5.alloc (.cells #[.int .i64 r0,.int .i64 r1,.int .i64 r2,.int .i64 r3,.slice base n cap,.slice (some ⟨B,0,none⟩) n n] 146)).trans C1;have hx:=C1.get ((Z3 w3 (.cells #[.int .i64 r0,.int .i64 r1,.int .i64 r2,.int .i64 r3,.slice base n cap,.slice (some ⟨B,0,none⟩) n n] 146) w3.heap.size).trans (if_pos rfl));have hr:=(((Ext.rfl' w3).alloc (.cells #[.int .i64 r0,.int .i64 r1,.int .i64 r2,.int .i64 r3,.slice base n cap,.slice (some ⟨B,0,none⟩) n n] 146)).trans C1).get (Am.get A9);replace hC:=(hC.ext ((Ext.rfl' w3).alloc (.cells #[.int .i64 r0,.int .i64 r1,.int .i64 r2,.int .i64 r3,.slice base n cap,.slice (some ⟨B,0,none⟩) n n] 146))).ext C1;have x0:=Z0 hx 0;have x1:=Z0 hx 1;have x2:=Z0 hx 2;have x3:=Z0 hx 3;have x4:=Z0 hx 4;have x5:=Z0 hx 5;simp only[List.getElem?_toArray,List.getElem?_cons_zero,List.getElem?_cons_succ] at x0 x1 x2 x3 x4 x5)
    |(go_at_call 124;refine(Bz _ _ _ (hm.ext hE) hC).mono ?_;rintro e w6 ⟨rfl,Lh⟩
      replace hE:=hE.trans Lh;replace hx:=Lh.get hx;replace hr:=Lh.get hr;replace hC:=hC.ext Lh;clear x0 x1 x2 x3 x4 x5;have y4:=Z0 hr 4;simp only[List.getElem?_toArray,List.getElem?_cons_zero,List.getElem?_cons_succ] at y4))
   refine wp_label ?_;go_wp2;obtain⟨N,hN⟩:∃N,N=w6.heap.size:=⟨_,rfl⟩;go_loopw [7,26] (fun v7 v26 wr=>∃i:Nat,i<=n/\v26= .int .i64 i/\OwnI N wr v7 (Zk0 r0 r1 r2 r3 S i)/\Ext w6 wr) (fun _ v26 _=>n - (intOf v26).toNat)
   case atStart=>exact⟨0,Nat.zero_le _,rfl,World.ownsRow_nil _ _ _ _,Ext.rfl' _⟩
   case round=>
    obtain⟨i,hi,rfl,Ae,Bm⟩:=hrel;have Xz:=Bm.get hx;have Fu:=hC.ext Bm;have hmr:=(hm.ext hE).ext Bm;by_cases An:i=n
    ·subst An;go_wp2;rw[Exit.noGoto_ret];refine bodyPost_ret (results_tmp2 rfl _ _ _) rfl ?_;exact⟨_,by rw[hR.out];rfl,by rw[hL.out];exact Ae.le (by have:=hE.size;omega),hE.trans Bm⟩
    ·have A3:i<n:=(by omega);have Ce:(i:Int)<(n:Int):=(by omega);have Nd:bits .andNot .i64 ((2:Int) ^ n - 1) (wrap64 (2 ^ i))=((2 ^ n - 1 - 2 ^ i:Nat):Int):=by
      simpa using List.all_eq_true.1 (List.all_eq_true.1 less_mask_all n (List.mem_range.2 (by omega))) i (List.mem_range.2 A3)
     go_wp2;obtain⟨wo,rfl⟩:∃wo:World,wo=wr:=⟨_,rfl⟩;obtain⟨y7,rfl⟩:∃y,y=u7:=⟨_,rfl⟩;go_loopw [7,29] (fun v7 v29 w2=>∃d:Nat,d<=91/\v7=y7/\v29= .int .i64 d/\Ext wo w2/\Hid (∀e,e<d->F1 e=F2 i e)) (fun _ v29 _=>91 - (intOf v29).toNat)
     case atStart=>exact⟨0,Nat.zero_le _,rfl,rfl,Ext.rfl' _,fun e he=>by omega⟩
     case round=>
      obtain⟨d,hd,rfl,rfl,A7,Jp⟩:=hrel;have Ow:=A7.get Xz;have hCd:=Fu.ext A7;have hmd:=hmr.ext A7;have Fy:=Ae.ext A7;by_cases N7:d=91
      ·subst N7;have HF:Hid (Zk0 r0 r1 r2 r3 S (i+1)=Zk0 r0 r1 r2 r3 S i):=by
        show _=_;rw[Zk1,show Zk7 r0 r1 r2 r3 S i=false from ?_]
        ·simp
        ·rw[Kj.out,List.any_eq_false];intro d hd;rw[Jp.out d (List.mem_range.1 hd)];simp
       clear Jp;go_wp2;exact⟨⟨i+1,by omega,by push_cast;rfl,by rw[HF.out];exact Fy,Bm.trans A7⟩,by simp[intOf];omega⟩
      ·have Da:d<=90:=(by omega);have Tz:(d:Int)<91:=(by omega);have x0:=Z0 Ow 0;have x1:=Z0 Ow 1;have x2:=Z0 Ow 2;have x3:=Z0 Ow 3;have x4:=Z0 Ow 4;have x5:=Z0 Ow 5;simp only[List.getElem?_toArray,List.getElem?_cons_zero,List.getElem?_cons_succ] at x0 x1 x2 x3 x4 x5;have g0:=Zet x0;have g1:=Zet x1;have g2:=Zet x2;have g3:=Zet x3;have g4:=Zet x4;have g5:=Zet x5;have Tt:=fun W (hW:Ext wr W)=>Ou B p d Da W (hmd.ext hW) (hCd.ext hW)
       have Kh:=fun W (hW:Ext wr W)=>Ov B p i d Da W (hmd.ext hW) (hCd.ext hW)
       go_wp2_with fail
       refine ZeG 12 (by kernel_rfl) ?_;refine ZeB [0,1,2,4,5,6,7,8,9] (by kernel_rfl) (by kernel_rfl) ?_;simp only[ZeD,List.getElem?_cons_succ,List.getElem?_cons_zero,List.cons_append,List.nil_append]
       repeat (go_big_quiet_step (fail))
       refine wpQuiet_nil ?_;refine ZeX 3 (f:=105) (args:= #[.agg #[.int .i64 r0,.int .i64 r1,.int .i64 r2,.int .i64 r3,.slice base n cap,.slice (some ⟨B,0,none⟩) n n],.int .i64 (2 ^ n - 1),.int .i64 d]) (v:= .agg #[.int .i64 (F1 d).1,.int .i64 (F1 d).2]) (by kernel_rfl) rfl (by kernel_rfl) rfl (fun W=>by simp[go_sem,execOp,Act.eval]) (Tt) ?_;go_simp;refine ZeX 10 (f:=105) (args:= #[.agg #[.int .i64 r0,.int .i64 r1,.int .i64 r2,.int .i64 r3,.slice base n cap,.slice (some ⟨B,0,none⟩) n n],.int .i64 ((2 ^ n - 1 - 2 ^ i:Nat):Int),.int .i64 d]) (v:= .agg #[.int .i64 (F2 i d).1,.int .i64 (F2 i d).2]) (by kernel_rfl) rfl (by kernel_rfl) rfl (fun W=>by simp[go_sem,execOp,Act.eval,Nd]) (Kh) ?_;go_simp;refine ZeB [11] (by kernel_rfl) (by kernel_rfl) ?_;simp only[ZeD,List.getElem?_cons_succ,List.getElem?_cons_zero,List.cons_append,List.nil_append]
       repeat (go_big_quiet_step (fail))
       refine wpQuiet_nil ?_;refine Zf6 (by kernel_rfl) (fun W hW=> ?_);have hoW:=Fy.ext hW;have Az:=A7.trans hW;clear Tt Kh x0 x1 x2 x3 x4 x5 g0 g1 g2 g3 g4 g5 Ow hCd hmd Fy hW A7;by_cases e:F1 d=F2 i d
       ·have hq:(!(F1 d).1==(F2 i d).1|| !(F1 d).2==(F2 i d).2)=false:=by rw[e];simp
        have Tu:Hid (∀e,e<d+1->F1 e=F2 i e):=fun q hq=>by
         by_cases h:q=d
         ·subst h;exact e
         ·exact Jp.out q (by omega)
        rw[hq];clear Jp e;go_wp2;exact⟨⟨d+1,by omega,rfl,by push_cast;rfl,Az,Tu⟩,by simp[intOf];omega⟩
       ·have hq:(!(F1 d).1==(F2 i d).1|| !(F1 d).2==(F2 i d).2)=true:=by
         rw[Bool.or_eq_true];by_cases h1:(F1 d).1=(F2 i d).1
         ·right
          have h2:(F1 d).2≠(F2 i d).2:=fun h2=>e (Prod.ext h1 h2)
          simpa using h2
         ·left;simpa using h1
        have HF:Hid (Zk0 r0 r1 r2 r3 S (i+1)=Zk0 r0 r1 r2 r3 S i++[(i:Int)]):=by
         show _=_;rw[Zk1,show Zk7 r0 r1 r2 r3 S i=true from ?_]
         ·simp
         ·rw[Kj.out,List.any_eq_true];exact⟨d,List.mem_range.2 (by omega),by simpa using e⟩
        have O1:=Zkc r0 r1 r2 r3 S i;have hN2:N<=W.heap.size:=(by rw[hN];exact Nat.le_trans Bm.size Az.size);generalize Zk0 r0 r1 r2 r3 S i=l at hoW HF O1;rw[hq];clear Jp e hq
        go_wp2_with (
         at_builtin
         refine wpList_append_own _ rfl _ _ _ rfl N 3 Tryz.t3 (.int .i64 0) 1 8 Go.Proofs.Tryq.u27 Go.Proofs.Tryq.i3 t3z t3s t3b rfl (by omega) _ _ _ rfl (hoW.alloc _) ⟨W.heap.size,0,none⟩ 1 1 [.int .i64 i] rfl rfl (Z1N _ _ _) (by intro u hu;simp at hu;subst hu;rfl) (by(try simp[maxLen]);omega) (by(try simp);omega) (by(try simp only[Z2]);omega) ?_;intro v' w3' Ao Ac _;have hE3':Ext w6 w3':=((Bm.trans Az).alloc _).grown Ac (fun k hk=>by have:=(hoW.lt k hk).1;omega))
        exact⟨⟨i+1,by omega,by push_cast;rfl,by rw[HF.out];simpa[OwnI] using Ao,hE3'⟩,by simp[intOf];omega⟩
 ·have hF:Hid (ZjZ r0 r1 r2 r3 S=ZC r0 r1 r2 r3 S):=if_neg Bf;have hL:Hid (ZjY r0 r1 r2 r3 S=[]):=if_neg (by rw[hF.out];exact Bf);have hx:(ZC r0 r1 r2 r3 S !=0)=true:=by simpa using Bf
  clear Bf;generalize ZC r0 r1 r2 r3 S=x at hx Co hF;go_enter func81,ntmps81;go_wp2;refine wp_scope_straight ?_
  go_wp2_with (first
   |(go_at_call 62;refine Co.mono ?_;rintro e w2 ⟨rfl,A7⟩;have Ai:=Af.trans A7))
  rw[Exit.noGoto_ret];refine bodyPost_ret (results_tmp2 rfl _ _ _) rfl ?_;exact⟨.slice none 0 0,by rw[hF.out];rfl,by rw[hL.out];exact World.ownsRow_nil _ _ _ _,Ai⟩
end Go.Proofs.Tryq
namespace Go.Proofs.Tryq
open Go Go.Nk Go.RowKit
set_option linter.all false
theorem Zhx{w:World}{bl:Option Addr}{S:List Int}(h:RawI w bl S)(h0:S≠[]):∃b o,bl=some ⟨b,o,none⟩/\b<w.heap.size/\∀j u,(S.map (Value.int .i64))[j]? =some u->w.cell? ((⟨b,o,none⟩:Addr).add j)=some u:=by
 obtain⟨x,hx⟩:∃x,S[0]? =some x:=by
  cases S with
  |nil=>exact absurd rfl h0
  |cons x t=>exact⟨x,rfl⟩
 obtain⟨b,o,rfl,hb,_⟩:=h 0 x hx;refine⟨b,o,rfl,hb,fun j u hj=> ?_⟩;rw[List.getElem?_map] at hj;obtain⟨y,hy,rfl⟩:=Option.map_eq_some_iff.1 hj;obtain⟨b',o',e,_,hc⟩:=h j y hy;obtain⟨rfl,rfl⟩:b=b'/\o=o':=by simpa using e
 have e2:(⟨b,o,none⟩:Addr).add j=⟨b,o+j,none⟩:=by unfold Addr.add;split<;>simp_all
 rw[e2];exact hc
theorem Zhm{o:Oper}{a:Act}{w:World}{K:Act->World->Prop}{Q:Exit->Act->World->Prop}(s x:Operand)(ho:o.op= .call {callee:= .builtin .append,args:= #[s,x],argTypes:= #[27,27]})
 (base:Nat)(v:Value)(T:List Int)(hs:a.eval s=v)(Ae:OwnI base w v T)(bl:Option Addr)(c:Nat)(S:List Int)(hx:a.eval x= .slice bl S.length c)(Cm:bl=none->c=0)(hS:RawI w bl S)
 (hb:T.length+S.length<=1000000)(A4:base<=w.heap.size)(h:∀v' w',OwnI base w' v' (T++S)->w.grownBy w' v.ownBlock->K (a.put o.dst v') w'):o.wp prog a w K Q:=by
 cases bl with
 |none=>
  have Hq:S=[]:=by
   cases S with
   |nil=>rfl
   |cons x t=>
    obtain⟨b,o,e,_⟩:=hS 0 x rfl;cases e
  subst Hq;obtain rfl:=Cm rfl;have Ag:=run_append_owned_none (P:=prog) (w:=w) base 27 o.type 3 Tryz.t3 1 u27 i3 v T.length (T.map (Value.int .i64)) Ae;have hx:a.eval x= .slice none 0 0:=hx;unfold Oper.wp;simp[execOp,ho,resolve,invoke,builtin,hs,hx,Ag,Result.andThen];exact h v w (by rw[List.append_nil];exact Ae) ⟨rfl,rfl,rfl,Nat.le_refl _,fun b hb _=>rfl⟩
 |some ad=>
  have hn:∀j u,(S.map (Value.int .i64))[j]? =some u->w.cell? (ad.add j)=some u:=by
   by_cases h0:S=[]
   ·subst h0;intro j u hj;simp at hj
   ·obtain⟨b,o,e,_,hc⟩:=Zhx hS h0;cases e;exact hc
  refine wp_append_own w s x 27 ho base 3 Tryz.t3 (.int .i64 0) 1 8 u27 i3 t3z t3s t3b rfl (by omega) v T.length (T.map (Value.int .i64)) hs Ae ad S.length c (S.map (Value.int .i64)) hx (by simp) hn (by intro u hu;obtain⟨x,_,rfl⟩:=List.mem_map.1 hu;rfl) (by simp only[maxLen];omega) (by omega) A4 ?_;intro v' w' h1 h2 _;refine h v' w' ?_ h2;show w'.ownsRow base 3 1 v' (T++S).length ((T++S).map (Value.int .i64));rw[List.map_append,List.length_append];exact h1
set_option linter.all false
theorem Zhj(bl:Option Addr)(k cl:Nat)(l:List Int)(x:Int)(w:World)(hk:l.length=k)(hb:k<=1000000)(hl:RawI w bl l):
 Calls prog 39 #[.slice bl k cl,.int .i64 x] w fun e w'=>e= .returned (.bool (decide (x∈l)))/\Ext w w':=by
 have H:Hid (decide (x∈l)=decide (x∈l.drop 0)):=rfl;replace hk:Hid (l.length=k):=hk;have Cw:Hid (RawI w bl l):=hl;clear hl;go_enter func39,ntmps39;go_wp2;go_loopw [5] (fun v wr=>∃i:Nat,i<=k/\v= .int .i64 i/\Ext w wr/\Hid (decide (x∈l)=decide (x∈l.drop i))) (fun v _=>k - (intOf v).toNat)
 case atStart=>exact⟨0,Nat.zero_le _,rfl,Ext.rfl' w,H⟩
 case round=>
  clear H;obtain⟨i,hi,rfl,hE,HP⟩:=hrel;by_cases J3:i=k
  ·have HR:Hid (decide (x∈l)=false):=by show _=_;rw[HP.out,J3,<-hk.out,List.drop_length];simp
   subst J3;clear HP;go_wp2;go_ret;exact⟨ZP HR.out.symm,hE⟩
  ·have A3:i<k:=by omega
   have Ce:(i:Int)<(k:Int):=by omega
   obtain⟨y,hy⟩:∃y,l[i]? =some y:=⟨_,List.getElem?_eq_getElem (by have:=hk.out;omega)⟩;obtain⟨b,o,rfl,Av,hc⟩:=(Cw.out.ext hE) i y hy;by_cases Cj:y=x
   ·have HR:Hid (decide (x∈l)=true):=decide_eq_true (Cj▸List.mem_of_getElem? hy);subst Cj;clear Cw hy HP;go_wp2;go_ret;exact⟨ZP HR.out.symm,hE⟩
   ·have HN:Hid (decide (x∈l)=decide (x∈l.drop (i+1))):=by
     show _=_;rw[HP.out,Z0b hy,Bool.eq_iff_iff];simp[Ne.symm Cj]
    clear hy HP;go_wp2;exact⟨⟨i+1,by omega,by push_cast;rfl,hE,HN⟩,by simp[intOf];omega⟩
set_option linter.all false
set_option linter.all false
theorem RawI.drop{w:World}{b o:Nat}{l:List Int}(h:RawI w (some ⟨b,o,none⟩) l)(i:Nat):RawI w (some ⟨b,o+i,none⟩) (l.drop i):=by
 intro j x hx;rw[List.getElem?_drop] at hx;obtain⟨b',o',e,h1,h2⟩:=h (i+j) x hx;obtain⟨rfl,rfl⟩:b=b'/\o=o':=by simpa using e
 exact⟨b,o+i,rfl,h1,by rw[Nat.add_assoc];exact h2⟩
end Go.Proofs.Tryq
namespace Go.Proofs.Tryq
set_option maxRecDepth 100000
set_option maxHeartbeats 4000000
open Go Go.Nk Go.RowKit
set_option linter.all false
theorem Zkd(bl:Option Addr)(k cl:Nat)(l:List Int)(i:Nat)(w:World)(hk:l.length=k)(Pd:k<=1000)(Gq:k<=cl)(hi:i<k)(hl:RawI w bl l):
 Calls prog 83 #[.slice bl k cl,.int .i64 i] w fun e w'=>∃v,e= .returned v/\OwnI w.heap.size w' v (l.eraseIdx i)/\Ext w w':=by
 obtain⟨x,hx⟩:∃y,l[i]? =some y:=⟨_,List.getElem?_eq_getElem (by omega)⟩;obtain⟨b,o,rfl,hb,hc⟩:=hl i x hx;have K1:Hid (RawI w (if cl=i+1 then some ⟨b,o,none⟩ else some ⟨b,o+(i+1),none⟩) (l.drop (i+1))):=by
  show RawI _ _ _;split
  ·have:l.drop (i+1)=[]:=List.drop_of_length_le (by omega);rw[this];exact fun j y hy=>by simp at hy
  ·exact hl.drop (i+1)
 have A3:Hid (RawI w (some ⟨b,o,none⟩) (l.take i)):=fun j y hy=>by
  rw[List.getElem?_take] at hy;split at hy
  ·exact hl j y hy
  ·cases hy
 have htk:(l.take i).length=i:=by rw[List.length_take];omega
 have hdp:(l.drop (i+1)).length=k - (i+1):=by rw[List.length_drop,hk]
 obtain⟨A,hA⟩:∃A:Option Addr,(if cl=i+1 then some ⟨b,o,none⟩ else some ⟨b,o+(i+1),none⟩)=A:=⟨_,rfl⟩;rw[hA] at K1;have Ko:A=none->cl - (i+1)=0:=by intro h;rw[h] at hA;split at hA<;>cases hA
 have Dq:(0:Int)<=(i:Int)+1:=by omega
 have Ds:(i:Int)+1<=(k:Int):=by omega
 have Ef:(k:Int)<=(cl:Int):=by omega
 have E2:(i:Int)<=(k:Int):=by omega
 have Np:(i:Int)<=(cl:Int):=by omega
 have HE:Hid (l.eraseIdx i=l.take i++l.drop (i+1)):=List.eraseIdx_eq_take_drop_succ l i;have hcl0:¬cl=0:=by omega
 clear hl hx;have gy:True:=trivial;go_enter func83,ntmps83;go_wp2_with fail;refine Zhk (ExtX fun q=>w.heap.size<=q) (by kernel_rfl) ?_;refine Zh8 (ExtX.pre _) [1,2,3,5,6,7,8] (by kernel_rfl) (by kernel_rfl) ?_;simp only[ZeD,List.getElem?_cons_succ,List.getElem?_cons_zero,List.cons_append,List.nil_append]
 repeat (go_big_quiet_step (fail))
 refine wpQuiet_nil ?_;refine Zh4 0 rfl (by kernel_rfl) rfl ?_;clear gy;refine Zf3 ⟨.slice (some ⟨w.drew.heap.size,0,none⟩) 0 0,w.drew.alloc (.cells #[] 3),by simp[go_sem,execOp,Act.eval],Go.Nk.Ext.toX ((Ext.rfl' _).alloc _) _,?_⟩;have hz:(w.drew.alloc (.cells #[] 3)).heap[w.drew.heap.size]? =some (.cells #[] 3):=by rw[Z3,if_pos rfl]
 have V8:OwnI w.heap.size (w.drew.alloc (.cells #[] 3)) (.slice (some ⟨w.drew.heap.size,0,none⟩) 0 0) []:=⟨rfl,.inr ⟨_,0,#[],rfl,Nat.le_refl _,hz,Nat.le_refl _,by simp[maxLen],rfl,rfl⟩⟩;have eA:=((Ext.rfl' w).drew).alloc (.cells #[] 3);generalize w.drew.alloc _=WA at V8 eA⊢;go_simp;refine Zh4 4 rfl (by kernel_rfl) rfl ?_;refine Zhm _ _ rfl w.heap.size _ [] rfl V8 (some ⟨b,o,none⟩) cl (l.take i) (by rw[htk];rfl) (by intro h;cases h) ((A3.out).ext eA) (by simp[htk];omega) eA.size (fun v3 W3 own3 Ib=>⟨Zhv Ib (fun k hk=>(V8.lt k hk).1),?_⟩);rw[List.nil_append] at own3;have e3:=eA.grown Ib (fun k hk=>(V8.lt k hk).1);go_simp;refine Zh4 9 rfl (by kernel_rfl) rfl ?_;refine Zhm _ _ rfl w.heap.size _ (l.take i) rfl own3 A (cl - (i+1)) (l.drop (i+1)) (by rw[hdp];rfl) Ko ((K1.out).ext e3) (by simp[htk,hdp];omega) e3.size (fun v4 W4 own4 hg4=>⟨Zhv hg4 (fun k hk=>(own3.lt k hk).1),?_⟩);have e4:=e3.grown hg4 (fun k hk=>(own3.lt k hk).1);go_simp;refine Zh8 (ExtX.pre _) [10] (by kernel_rfl) (by kernel_rfl) ?_;simp only[ZeD,List.getElem?_cons_succ,List.getElem?_cons_zero,List.cons_append,List.nil_append]
 repeat (go_big_quiet_step (fail))
 refine wpQuiet_nil ?_;refine ZhF (by kernel_rfl) ?_;go_wp2;go_ret;exact⟨_,rfl,by rw[HE.out];exact own4,e4⟩
end Go.Proofs.Tryq
namespace Go.Proofs.Tryq
open Go Go.Nk Go.RowKit
set_option linter.all false
theorem ZgE{w:World}{b:Nat}{a0 a1 a2 a3 a4:Value}{t:TypeId}(h:w.heap[b]? =some (.cells #[a0,a1,a2,a3,a4] t)):
 w.cell? ⟨b,0,none⟩=some a0/\w.cell? ⟨b,1,none⟩=some a1/\w.cell? ⟨b,2,none⟩=some a2/\w.cell? ⟨b,3,none⟩=some a3/\w.cell? ⟨b,4,none⟩=some a4:=
 ⟨Z0 h 0,Z0 h 1,Z0 h 2,Z0 h 3,Z0 h 4⟩
end Go.Proofs.Tryq
