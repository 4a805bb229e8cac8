import Derived.Test.YtedkbdkbbnemlaaGreatDoorNk28
import Derived.JoinedOf
import Derived.KernelRfl
import Derived.Test.YtedkbdkbbnemlaaGreatDoorRows
set_option linter.all false
namespace Go.Proofs.Tryq
open Go Go.Nk Go.RowKit
set_option linter.all false
def Truth(r0 r1:Int)(M:Nat→Int):Prop:=∀d,d<90→r0≤M (d+1) - M d∧M (d+1) - M d≤r1
theorem Truth.step{r0 r1:Int}{M:Nat→Int}(h:Truth r0 r1 M){d:Nat}:∀{k:Nat},d+k≤90→r0*(k:Int)≤M (d+k) - M d∧M (d+k) - M d≤r1*(k:Int)
 |0,_=>by simp
 |k+1,hk=>by
  obtain⟨h1,h2⟩:=h.step (d:=d) (k:=k) (by omega)
  have h3:=h (d+k) (by omega)
  have e1:r0*((k+1:Nat):Int)=r0*k+r0:=by rw[Int.natCast_add,Int.mul_add];simp
  have e2:r1*((k+1:Nat):Int)=r1*k+r1:=by rw[Int.natCast_add,Int.mul_add];simp
  rw[e1,e2,show d+(k+1)=d+k+1 from rfl]
  omega
structure Sees(M:Nat→Int)(s:Rs):Prop where
 a:0≤s.a∧s.a≤90
 m:0≤s.m∧s.m≤M s.a.toNat∧M s.a.toNat≤s.M∧s.M≤99999
 w:s.wi=0
 l:s.li=0
theorem Truth.in_{r0 r1 r2 r3:Int}{M:Nat→Int}(h:Truth r0 r1 M){s:Rs}(hs:Sees M s){d:Nat}(hd:d≤90):(spV r0 r1 r2 r3 s d).1≤M d∧M d≤(spV r0 r1 r2 r3 s d).2:=by
 have ho:Z5c r2 r3 s=0:=by rw[Z5c,hs.w,hs.l];simp
 obtain⟨A,hA⟩:=Int.eq_ofNat_of_zero_le hs.a.1
 have ha:=hs.a
 have hm:=hs.m
 rw[hA] at ha hm
 simp only[Int.toNat_natCast] at hm
 simp only[spV,Zcu,Zc1,ho,hA]
 by_cases hle:A≤d
 ·obtain⟨k,rfl⟩:=Nat.exists_eq_add_of_le hle
  obtain⟨h1,h2⟩:=h.step (d:=A) (k:=k) hd
  have e:((A+k:Nat):Int) - (A:Int)=(k:Int):=by omega
  rw[if_pos (by omega),if_pos (by omega),e]
  omega
 ·obtain⟨k,rfl⟩:=Nat.exists_eq_add_of_le (show d≤A by omega)
  obtain⟨h1,h2⟩:=h.step (d:=d) (k:=k) (by omega)
  have e:((d+k:Nat):Int) - (d:Int)=(k:Int):=by omega
  rw[if_neg (by omega),if_neg (by omega),e]
  omega
theorem sees_card{r0 r1 r2 r3:Int}{M:Nat→Int}{T:List Rs}(hr:ZC r0 r1 r2 r3 []=0)(hl:T.length≤8)(hT:∀s∈T,Sees M s):ZC r0 r1 r2 r3 T=0:=by
 obtain⟨h1,_,_⟩:=Z0i hr
 refine Zjf h1 ?_
 rw[Z23,if_neg (by omega),if_pos]
 rw[List.all_eq_true]
 intro s hs
 obtain⟨⟨a1,a2⟩,⟨a3,a4,a5,a6⟩,a7,a8⟩:=hT s hs
 have a9:s.m≤s.M:=by omega
 simp[okS,okN,a1,a2,a3,a6,a7,a8,a9]
theorem ZjC{r0 r1 r2 r3:Int}{M:Nat→Int}{T:List Rs}(hr:ZC r0 r1 r2 r3 []=0)(hl:T.length≤8)(h:Truth r0 r1 M)(hT:∀s∈T,Sees M s):Zj8 r0 r1 r2 r3 T=true:=by
 rw[Zjn (Zav (sees_card hr hl hT))]
 intro s hs t ht
 have ha:=(hT s hs).a
 have h1:=(h.in_ (r2:=r2) (r3:=r3) (hT s hs) (d:=s.a.toNat) (by omega)).1
 have h2:=(h.in_ (r2:=r2) (r3:=r3) (hT t ht) (d:=s.a.toNat) (by omega)).2
 rw[Int.toNat_of_nonneg ha.1] at h1 h2
 unfold Z6W
 omega
theorem ZjK{r0 r1 r2 r3:Int}{M:Nat→Int}{T:List Rs}(hr:ZC r0 r1 r2 r3 []=0)(hl:T.length≤8)(h:Truth r0 r1 M)(hT:∀s∈T,Sees M s):
 Z7L r0 r1 r2 r3 T=[]∧Z7M r0 r1 r2 r3 T=upL T.length:=by
 have hc:=clsh (sees_card hr hl hT)
 have hf:=ZjC hr hl h hT
 refine⟨hc.none_ hf,((chooseR_iff _ _).1 hc.tk).eq_of_length ?_⟩
 have:=hc.ct
 rw[hf] at this
 rw[Zj5]
 exact of_decide_eq_true this.symm
theorem ZjE{r0 r1 r2 r3:Int}{M:Nat→Int}{T:List Rs}(hr:ZC r0 r1 r2 r3 []=0)(hl:T.length≤8)(h:Truth r0 r1 M)(hT:∀s∈T,Sees M s)(h0:T≠[]):Fine r0 r1 r2 r3 T:=
 ⟨sees_card hr hl hT,h0,ZjC hr hl h hT⟩
theorem ZjF{r0 r1 r2 r3:Int}{M:Nat→Int}{T:List Rs}(hg:Fine r0 r1 r2 r3 T)(h:Truth r0 r1 M)(hT:∀s∈T,Sees M s){d:Nat}(hd:d≤90):(Z4L r0 r1 r2 r3 T d).1≤M d∧M d≤(Z4L r0 r1 r2 r3 T d).2:=
 ⟨(hg.lo (by omega)).2 fun s hs=>(h.in_ (hT s hs) hd).1,(hg.hi (by omega)).2 fun s hs=>(h.in_ (hT s hs) hd).2⟩
theorem ZjU{r0 r1 r2 r3:Int}{M:Nat→Int}{T:List Rs}(hg:Fine r0 r1 r2 r3 T)(h:Truth r0 r1 M)(hT:∀s∈T,Sees M s){d:Nat}(hd:d≤90)(hm:0≤M d∧M d≤99999):
 Z6c r0 r1 r2 r3 T d (M d) 0≠2∧(Z6c r0 r1 r2 r3 T d (M d) 0=1↔(Z4L r0 r1 r2 r3 T d).1=(Z4L r0 r1 r2 r3 T d).2):=by
 have h1:=ZjF hg h hT hd
 have hd2:0≤(d:Int)∧(d:Int)≤90:=by omega
 refine⟨?_,?_⟩
 ·rw[Z6c,if_pos (hg.hitsF hd2 (by omega) (by omega)),hitV,Z6a _ (by omega),Z6a _ (by omega)]
  split
  ·omega
  ·split
   ·omega
   ·omega
 ·rw[hg.hits hd2 (by omega) (by omega)]
  omega
set_option linter.all false
theorem Zhx{w:World}{bl:Option Addr}{S:List Int}(h:RawI w bl S)(h0:S≠[]):∃b o,bl=some ⟨b,o,none⟩∧b<w.heap.size∧∀j u,(S.map (Value.int .i64))[j]? =some u→w.cell? ((⟨b,o,none⟩:Addr).add j)=some u:=by
 obtain⟨x,hx⟩:∃x,S[0]? =some x:=by
  cases S with
  |nil=>exact absurd rfl h0
  |cons x t=>exact⟨x,rfl⟩
 obtain⟨b,o,rfl,hb,_⟩:=h 0 x hx
 refine⟨b,o,rfl,hb,fun j u hj=> ?_⟩
 rw[List.getElem?_map] at hj
 obtain⟨y,hy,rfl⟩:=Option.map_eq_some_iff.1 hj
 obtain⟨b',o',e,_,hc⟩:=h j y hy
 obtain⟨rfl,rfl⟩:b=b'∧o=o':=by simpa using e
 have e2:(⟨b,o,none⟩:Addr).add j=⟨b,o+j,none⟩:=by unfold Addr.add;split<;>simp_all
 rw[e2]
 exact hc
theorem Zhm{o:Oper}{a:Act}{w:World}{K:Act→World→Prop}{Q:Exit→Act→World→Prop}(s x:Operand)(ho:o.op= .call {callee:= .builtin .append,args:= #[s,x],argTypes:= #[27,27]})
 (base:Nat)(v:Value)(T:List Int)(hs:a.eval s=v)(hown:OwnI base w v T)(bl:Option Addr)(c:Nat)(S:List Int)(hx:a.eval x= .slice bl S.length c)(hnil:bl=none→c=0)(hS:RawI w bl S)
 (hb:T.length+S.length≤1000000)(hbase:base≤w.heap.size)(h:∀v' w',OwnI base w' v' (T++S)→w.grownBy w' v.ownBlock→K (a.put o.dst v') w'):o.wp prog a w K Q:=by
 cases bl with
 |none=>
  have hS0:S=[]:=by
   cases S with
   |nil=>rfl
   |cons x t=>
    obtain⟨b,o,e,_⟩:=hS 0 x rfl
    cases e
  subst hS0
  obtain rfl:=hnil rfl
  have hrun:=run_append_owned_none (P:=prog) (w:=w) base 27 o.type 3 Tryz.t3 1 u27 i3 v T.length (T.map (Value.int .i64)) hown
  have hx:a.eval x= .slice none 0 0:=hx
  unfold Oper.wp
  simp[execOp,ho,resolve,invoke,builtin,hs,hx,hrun,Result.andThen]
  exact h v w (by rw[List.append_nil];exact hown) ⟨rfl,rfl,rfl,Nat.le_refl _,fun b hb _=>rfl⟩
 |some ad=>
  have hn:∀j u,(S.map (Value.int .i64))[j]? =some u→w.cell? (ad.add j)=some u:=by
   by_cases h0:S=[]
   ·subst h0;intro j u hj;simp at hj
   ·obtain⟨b,o,e,_,hc⟩:=Zhx hS h0
    cases e
    exact hc
  refine wp_append_own w s x 27 ho base 3 Tryz.t3 (.int .i64 0) 1 8 u27 i3 t3z t3s t3b rfl (by omega) v T.length (T.map (Value.int .i64)) hs hown ad S.length c (S.map (Value.int .i64)) hx (by simp) hn (by intro u hu;obtain⟨x,_,rfl⟩:=List.mem_map.1 hu;rfl) (by simp only[maxLen];omega) (by omega) hbase ?_
  intro v' w' h1 h2 _
  refine h v' w' ?_ h2
  show w'.ownsRow base 3 1 v' (T++S).length ((T++S).map (Value.int .i64))
  rw[List.map_append,List.length_append]
  exact h1
end Go.Proofs.Tryq
namespace Go.Proofs.Tryq
set_option maxRecDepth 100000
set_option maxHeartbeats 4000000
open Go Go.Nk Go.RowKit
set_option linter.all false
def grw(r0 r1 f:Int)(l:List Int):Nat→Int
 |0=>f % 5000
 |d+1=>grw r0 r1 f l d+(r0+(Zgu l ((d+1) % 20)+((d+1:Nat):Int)*Zgu l 20) % (r1 - r0+1))
def ZjN(r0 r1 f:Int)(l:List Int)(k:Nat):List Int:=(List.range k).map (grw r0 r1 f l)
theorem ZjO(r0 r1 f:Int)(l:List Int)(k:Nat):ZjN r0 r1 f l (k+1)=ZjN r0 r1 f l k++[grw r0 r1 f l k]:=by simp[ZjN,List.range_succ]
theorem ZjG(r0 r1 f:Int)(l:List Int)(k:Nat):(ZjN r0 r1 f l k).length=k:=by simp[ZjN]
theorem ZjH(r0 r1 f:Int)(l:List Int){k d:Nat}(h:d<k):(ZjN r0 r1 f l k)[d]? =some (grw r0 r1 f l d):=by simp[ZjN,h]
theorem ZjI{r0 r1:Int}(h:r0≤r1)(f:Int)(l:List Int)(d:Nat):r0≤grw r0 r1 f l (d+1) - grw r0 r1 f l d∧grw r0 r1 f l (d+1) - grw r0 r1 f l d≤r1:=by
 rw[grw]
 have h1:=Int.emod_nonneg (Zgu l ((d+1) % 20)+((d+1:Nat):Int)*Zgu l 20) (show r1 - r0+1≠0 by omega)
 have h2:=Int.emod_lt_of_pos (Zgu l ((d+1) % 20)+((d+1:Nat):Int)*Zgu l 20) (show 0<r1 - r0+1 by omega)
 generalize (Zgu l ((d+1) % 20)+((d+1:Nat):Int)*Zgu l 20) % (r1 - r0+1)=y at h1 h2⊢
 omega
theorem ZjP{r0 r1:Int}(h:r0≤r1)(f:Int)(l:List Int):Truth r0 r1 (grw r0 r1 f l):=fun d _=>ZjI h f l d
theorem ZjJ{r0 r1:Int}(h0:0≤r0)(h:r0≤r1)(h1:r1≤999)(f:Int)(l:List Int):∀d:Nat,0≤grw r0 r1 f l d∧grw r0 r1 f l d≤4999+999*(d:Int)
 |0=>by rw[grw];omega
 |d+1=>by
  have ih:=ZjJ h0 h h1 f l d
  have:=ZjI h f l d
  push_cast
  omega
theorem ZjQ(r0 r1 r2 r3 f:Int)(pb:Option Addr)(pn pc:Nat)(l:List Int)(w:World)(h0:0≤r0)(h1:r0≤r1)(h9:r1≤999)(hf:0≤f∧f<65536)(hlen:l.length=pn)(hu:∀x∈l,0≤x∧x<65536)(hl:RawU w pb l):
 Calls prog 71 #[.agg #[.int .i64 r0,.int .i64 r1,.int .i64 r2,.int .i64 r3],.int .u16 f,.slice pb pn pc] w fun e w'=>∃v,e= .returned v∧OwnI w.heap.size w' v (ZjN r0 r1 f l 91)∧Ext w w':=by
 have hin:=ZjJ h0 h1 h9 f l
 have hch:=fun k W (hk:k<1000)(hW:Ext w W)=>Zgl pb pn pc l k W hlen hk hu (hl.ext hW)
 have hci:=fun k=>Zgp (m:=65535) (by omega) (fun x hx=>by have:=hu x hx;omega:∀x∈l,0≤x∧x≤65535) k
 have hpk:=fun n W hn=>Zgq r0 r1 n W h1 (by omega) (by omega) hn
 have hm1:f.tmod 5000=f % 5000:=Int.tmod_eq_emod_of_nonneg hf.1
 have hst:=ZjO r0 r1 f l
 have hg:=fun{k d:Nat}=>ZjH r0 r1 f l (k:=k) (d:=d)
 have hgl:=ZjG r0 r1 f l
 have hgs:∀d:Nat,grw r0 r1 f l (d+1)=grw r0 r1 f l d+(r0+(Zgu l ((d+1) % 20)+((d+1:Nat):Int)*Zgu l 20) % (r1 - r0+1)):=fun d=>rfl
 have hG1:ZjN r0 r1 f l 1=[f % 5000]:=rfl
 generalize ZjN r0 r1 f l=G at hst hg hgl hG1⊢
 generalize grw r0 r1 f l=M at hst hg hgs hin
 generalize Zgu l=ch at hch hci hgs
 clear hu hl hlen
 have hE0:=((Ext.rfl' w).alloc (.cells #[.int .i64 r0,.int .i64 r1,.int .i64 r2,.int .i64 r3] 67)).alloc (.cells #[.int .i64 (f % 5000)] 3)
 have hr0:=((Ext.rfl' (w.alloc (.cells #[.int .i64 r0,.int .i64 r1,.int .i64 r2,.int .i64 r3] 67))).alloc (.cells #[.int .i64 (f % 5000)] 3)).get ((Z3 w (.cells #[.int .i64 r0,.int .i64 r1,.int .i64 r2,.int .i64 r3] 67) w.heap.size).trans (if_pos rfl))
 obtain⟨N,hN⟩:∃N,N=w.heap.size+1:=⟨_,rfl⟩
 have hO0:OwnI N ((w.alloc (.cells #[.int .i64 r0,.int .i64 r1,.int .i64 r2,.int .i64 r3] 67)).alloc (.cells #[.int .i64 (f % 5000)] 3)) (.slice (some ⟨w.heap.size+1,0,none⟩) 1 1) [f % 5000]:=Z6s (w.alloc (.cells #[.int .i64 r0,.int .i64 r1,.int .i64 r2,.int .i64 r3] 67)) N 3 #[.int .i64 (f % 5000)] 1 _ (Z2 _ _) (by omega) rfl (by decide)
 go_enter func71,ntmps71
 go_wp2
 generalize World.alloc _ _=w1 at hE0 hr0 hO0⊢
 go_loopw [7,8] (fun v7 v8 wr=>∃e:Nat,e≤90∧v8= .int .i64 ((e:Int)+1)∧OwnI N wr v7 (G (e+1))∧Ext w wr∧wr.heap[w.heap.size]? =some (.cells #[.int .i64 r0,.int .i64 r1,.int .i64 r2,.int .i64 r3] 67)) (fun _ v8 _=>91 - (intOf v8).toNat)
 case atStart=>exact⟨0,by omega,rfl,by rw[hG1];exact hO0,hE0,hr0⟩
 case round=>
  clear hE0 hr0 hO0
  obtain⟨e,he,rfl,hown,hE,hr⟩:=hrel
  by_cases h91:e=90
  ·subst h91
   go_wp2
   go_ret
   exact⟨_,rfl,hown.le (by omega),hE⟩
  ·have hlt:((e:Int)+1)≤90:=by omega
   have hNw:N≤wr.heap.size:=by have:=Z5 hr;omega
   obtain⟨ao,cp,rfl,hI,hcp⟩:=hown.rawI
   obtain⟨bb,ob,rfl,hbb,hce⟩:=hI e _ (hg (k:=e+1) (d:=e) (by omega))
   have hl1:(G (e+1)).length=e+1:=hgl _
   rw[hl1] at hown hcp
   have hc1:=fun W (hW:Ext wr W)=>hch ((e+1) % 20) W (by omega) (hE.trans hW)
   have hc2:∀W,Ext wr W→Calls prog 48 #[.slice pb pn pc,.int .i64 20] W fun e w'=>e= .returned (.int .i64 (ch 20))∧Ext W w':=fun W (hW:Ext wr W)=>hch 20 W (by decide) (hE.trans hW)
   have hm2:Int.tmod ((e:Int)+1) 20=(((e+1) % 20:Nat):Int):=by rw[Int.tmod_eq_emod_of_nonneg (by omega)];omega
   have hi1:=hci ((e+1) % 20);have hi2:=hci 20
   have hin1:=hin e;have hin2:=hin (e+1)
   have hgs1:=hgs e
   generalize ch ((e+1) % 20)=c1 at hc1 hi1 hgs1
   generalize ch 20=c2 at hc2 hi2 hgs1
   generalize ((e+1) % 20:Nat)=kd at hc1 hm2
   have hmb:0≤((e:Int)+1)*c2∧((e:Int)+1)*c2≤91*65535:=Z1A (by omega) hi2
   have hp2:((e+1:Nat):Int)=(e:Int)+1:=by push_cast;rfl
   rw[hp2] at hgs1
   have hw1:wrap64 (((e:Int)+1)*c2)=((e:Int)+1)*c2:=Z6a _ (by omega)
   have hw2:wrap64 (c1+((e:Int)+1)*c2)=c1+((e:Int)+1)*c2:=Z6a _ (by omega)
   have hpk1:=fun W=>hpk (c1+((e:Int)+1)*c2) W (by omega)
   generalize hpn:c1+((e:Int)+1)*c2=pn2 at hw2 hpk1 hgs1
   generalize hmp:((e:Int)+1)*c2=mp at hw1 hw2 hpn hmb
   generalize hpx:r0+pn2 % (r1 - r0+1)=px at hpk1 hgs1
   have hw3:wrap64 (M e+px)=M (e+1):=by rw[hgs1];exact Z6a (M e+px) (by omega)
   have hwe:wrap64 ((e:Int)+1 - 1)=(e:Int):=by rw[Z6a ((e:Int)+1 - 1) (by omega)];omega
   have q0:=Z0 hr 0;have q1:=Z0 hr 1
   simp only[List.getElem?_toArray,List.getElem?_cons_zero,List.getElem?_cons_succ] at q0 q1
   have g0:=Zet q0;have g1:=Zet q1;have ge:=Zet hce
   clear hpk hch hci hgs hpx hin
   go_wp2_with fail
   refine ZeG 23 (by kernel_rfl) ?_
   refine Zin [0,1,2,3,4,5,6,7,8,9,11,12,13,15,16] (by kernel_rfl) (by kernel_rfl) ?_
   simp only[ZeD,List.getElem?_cons_succ,List.getElem?_cons_zero,List.cons_append,List.nil_append]
   repeat (go_big_quiet_step (fail))
   refine wpQuiet_nil ?_
   refine Zib 10 (f:=34) (args:= #[.int .i64 r0,.int .i64 r1]) (v:= .agg #[.int .i64 r0,.int .i64 r1]) (by kernel_rfl) rfl (by kernel_rfl) rfl (fun W=>by simp[go_sem,execOp,Act.eval]) (fun W _=>Z3P r0 r1 W) ?_
   go_simp
   refine Zib 14 (f:=48) (args:= #[.slice pb pn pc,.int .i64 kd]) (v:= .int .i64 c1) (by kernel_rfl) rfl (by kernel_rfl) rfl (fun W=>by simp[go_sem,execOp,Act.eval]) (hc1) ?_
   go_simp
   refine Zib 17 (f:=48) (args:= #[.slice pb pn pc,.int .i64 20]) (v:= .int .i64 c2) (by kernel_rfl) rfl (by kernel_rfl) rfl (fun W=>by simp[go_sem,execOp,Act.eval]) (hc2) ?_
   go_simp
   refine Zin [18,19] (by kernel_rfl) (by kernel_rfl) ?_
   simp only[ZeD,List.getElem?_cons_succ,List.getElem?_cons_zero,List.cons_append,List.nil_append]
   repeat (go_big_quiet_step (fail))
   refine wpQuiet_nil ?_
   refine Zib 20 (f:=47) (args:= #[.agg #[.int .i64 r0,.int .i64 r1],.int .i64 pn2]) (v:= .int .i64 px) (by kernel_rfl) rfl (by kernel_rfl) rfl (fun W=>by simp[go_sem,execOp,Act.eval]) (fun W _=>hpk1 W) ?_
   go_simp
   refine Zin [21] (by kernel_rfl) (by kernel_rfl) ?_
   simp only[ZeD,List.getElem?_cons_succ,List.getElem?_cons_zero,List.cons_append,List.nil_append]
   repeat (go_big_quiet_step (fail))
   refine wpQuiet_nil ?_
   refine Zfa 22 rfl (by kernel_rfl) rfl (fun W hW=>Zf3 ⟨.slice (some ⟨W.heap.size,0,none⟩) 1 1,W.alloc (.cells #[.int .i64 (M e+px)] 3),by simp[go_sem,execOp,Act.eval],(Ext.rfl' W).alloc _,?_⟩)
   have hE2:=hW.alloc (.cells #[.int .i64 (M e+px)] 3)
   have hb5:=(Z3 W (.cells #[.int .i64 (M e+px)] 3) W.heap.size).trans (if_pos rfl)
   obtain⟨b5,z5⟩:∃z,z=W.heap.size:=⟨_,rfl⟩
   rw[←z5] at hb5;rw[←z5]
   clear z5 hW
   generalize World.alloc W _=W2 at hE2 hb5⊢
   clear W
   go_simp
   refine Zfp 2 (by kernel_rfl) (fun W hW=> ?_)
   simp only[List.drop_succ_cons,List.drop_zero]
   have hoW:=hown.ext (hE2.trans hW);have hEW:=(hE.trans hE2).trans hW;have hrW:=(hE2.trans hW).get hr;have hbW:=hW.get hb5
   have hNW:N≤W.heap.size:=by have:=Z5 hrW;omega
   have HN:Hid (G (e+1+1)=G (e+1)++[M e+px]):=by show _=_;rw[hst,hgs1]
   clear hst hg hI hce q0 q1 g0 g1 ge hc1 hc2 hE2 hW hb5 hE hr hpk1
   go_wp2_with (
    at_builtin
    refine wpList_plain rfl fun K hK=> ?_
    refine Zhm _ _ rfl N _ (G (e+1)) rfl hoW (some ⟨b5,0,none⟩) 1 [M e+px] rfl (by intro h;cases h) (Z0V hbW rfl) (by simp[hgl];omega) hNW (fun v6 W6 own6 hg6=>hK _ _ ?_)
    have hE6:=hEW.grown hg6 (fun k hk=>by have:=(hoW.lt k hk).1;omega)
    have hr6:=(hg6.block w.heap.size (Z5 hrW) (by intro h;have:=(hoW.lt _ h.symm).1;omega)).trans hrW)
   refine Zfm ?_
   go_wp2
   exact⟨⟨e+1,by omega,by push_cast;rfl,by rw[HN.out];exact own6,hE6,hr6⟩,by simp[intOf];omega⟩
end Go.Proofs.Tryq
namespace Go.Proofs.Tryq
set_option maxRecDepth 100000
set_option maxHeartbeats 8000000
open Go Go.Nk Go.RowKit
set_option linter.all false
theorem ZjR{P:Program}{ops:Array Oper}{R:Exit→Act→World→Prop}{t:Nat}{l:List Nat}{i d:Nat}{pre:List Nat}{obj:Obj}(k:Nat){o oi:Oper}{v:Value}{a:Act}{w:World}{A:Nat→Prop}(hs:(okT ops t&&ZfF ops k i)=true)(hoi:ops[i]? =some oi)(hd:oi.dst=some d)(hi:ops[k]? =some o)(hf:Go.Nk.freeL ops t l k=true)(hw:Region.wanted o (yielded ops a.tmps)=true)
 (hr:∀W,(execOp a.eval o).run P W= .ok (.value v) W)(h:LXF P ops R t i d pre obj (k::l) (a.put o.dst v) w A):LXF P ops R t i d pre obj l a w A:=by
 rw[Bool.and_eq_true] at hs
 exact ZfG hs.1 hoi hd hs.2 hi hf (.inl ⟨hw,fun W hW=>by unfold YV;rw[hr W];exact⟨rfl,Ext.rfl' W⟩⟩) h
theorem ZjA{w w':World}{g O:Nat}{l:List Int}(h:RawI w (some ⟨g,O,none⟩) l)(e:w'.heap[g]? =w.heap[g]?):RawI w' (some ⟨g,O,none⟩) l:=by
 intro i s hs
 obtain⟨b,off,e1,hb,sh⟩:=h i s hs
 obtain⟨rfl,rfl⟩:g=b∧O=off:=by simpa using e1
 have hb':g<w'.heap.size:=by
  rw[Array.getElem?_eq_getElem hb] at e
  exact(Array.getElem?_eq_some_iff.1 e).1
 exact⟨g,O,rfl,hb',by simp only[World.cell?,e] at sh⊢;exact sh⟩
theorem ZjL(r0 r1 r2 r3 f u cf:Int)(pb:Option Addr)(pn pc:Nat)(sb:Option Addr)(sn sc:Nat)(w:World)(hbad:cf≠0∨24<sn)
 (hck:∀W,Ext w W→Calls prog 63 #[.agg #[.int .i64 r0,.int .i64 r1,.int .i64 r2,.int .i64 r3,.slice none 0 0]] W fun e w'=>e= .returned (.int .i64 cf)∧Ext W w')
 (hsh:∀W,Ext w W→Calls prog 22 #[] W fun e w'=>e= .returned (.bool true)∧Ext W w'):
 Calls prog 14 #[.agg #[.int .i64 r0,.int .i64 r1,.int .i64 r2,.int .i64 r3],.int .u16 f,.slice pb pn pc,.slice sb sn sc,.int .u8 u] w fun e w'=>e= .returned (.bool true):=by
 by_cases h0:cf=0
 ·subst h0
  have hsn:(24:Int)<(sn:Int):=by omega
  clear hbad
  go_enter func14,ntmps14
  go_wp2_with (first
   |(go_at_call 63;refine(hck _ (((Ext.rfl' w).alloc _).alloc _)).mono ?_;rintro e w2 ⟨rfl,hE2⟩
     have hE:=(((Ext.rfl' w).alloc _).alloc _).trans hE2)
   |(go_at_call 22;refine(hsh _ hE).mono ?_;rintro e w3 ⟨rfl,hF⟩))
  go_ret
  exact rfl
 ·have hb:(cf !=0)=true:=by simpa using h0
  clear hbad
  go_enter func14,ntmps14
  go_wp2_with (first
   |(go_at_call 63;refine(hck _ (((Ext.rfl' w).alloc _).alloc _)).mono ?_;rintro e w2 ⟨rfl,hE2⟩
     have hE:=(((Ext.rfl' w).alloc _).alloc _).trans hE2)
   |(go_at_call 22;refine(hsh _ hE).mono ?_;rintro e w3 ⟨rfl,hF⟩))
  go_ret
  exact rfl
structure RealC(r0 r1 r2 r3:Int)(ab:Option Addr)(q ac d:Nat)(md x1 x2 fm hv:Int)(W0:World):Prop where
 h64:∀W,Ext W0 W→Calls prog 64 #[.agg #[.int .i64 r0,.int .i64 r1,.int .i64 r2,.int .i64 r3,.slice ab q ac]] W fun e w'=>e= .returned (.tuple #[.bool true,.int .i64 0])∧Ext W w'
 h66:∀W,Ext W0 W→Calls prog 66 #[.agg #[.int .i64 r0,.int .i64 r1,.int .i64 r2,.int .i64 r3,.slice ab q ac]] W fun e w'=>∃bl cl,e= .returned (.tuple #[.slice bl 0 cl,.int .i64 0])∧Ext W w'
 h68:∀W,Ext W0 W→Calls prog 68 #[.agg #[.int .i64 r0,.int .i64 r1,.int .i64 r2,.int .i64 r3,.slice ab q ac]] W fun e w'=>∃bl cl,e= .returned (.tuple #[.slice bl q cl,.int .i64 0])∧RawI w' bl (upL q)∧Ext W w'
 h44:∀W,Ext W0 W→Calls prog 44 #[.int .i64 q] W fun e w'=>∃bl cl,e= .returned (.slice bl q cl)∧RawI w' bl (upL q)∧Ext W w'
 h45:∀W,Ext W0 W→Calls prog 45 #[.agg #[.int .i64 r0,.int .i64 r1,.int .i64 r2,.int .i64 r3,.slice ab q ac],.int .i64 d] W fun e w'=>e= .returned (.tuple #[.agg #[.int .i64 x1,.int .i64 x2],.int .i64 fm])∧Ext W w'
 h53:q≠0→∀W,Ext W0 W→Calls prog 53 #[.agg #[.int .i64 r0,.int .i64 r1,.int .i64 r2,.int .i64 r3,.slice ab q ac],.int .i64 d,.int .i64 md,.int .i64 0] W fun e w'=>e= .returned (.tuple #[.int .i64 hv,.int .i64 0])∧Ext W w'
theorem ZjS(r0 r1 r2 r3 f u:Int)(pb:Option Addr)(pn pc:Nat)(sb:Option Addr)(sn sc:Nat)(M:Nat→Int)(G SH:List Int)(w:World)(hsn:sn≤24)(hu:0≤u∧u<256)
 (hM:Hid (∀d,d≤90→0≤M d∧M d≤99999))(hGM:Hid (∀d,d≤90→G[d]? =some (M d)))(hSl:Hid (SH.length=sn))(hSu:Hid (∀x∈SH,0≤x∧x<65536))(hSH:Hid (RawU w sb SH))
 (hck:∀W,Ext w W→Calls prog 63 #[.agg #[.int .i64 r0,.int .i64 r1,.int .i64 r2,.int .i64 r3,.slice none 0 0]] W fun e w'=>e= .returned (.int .i64 0)∧Ext W w')
 (hgr:∀W,Ext w W→Calls prog 71 #[.agg #[.int .i64 r0,.int .i64 r1,.int .i64 r2,.int .i64 r3],.int .u16 f,.slice pb pn pc] W fun e w'=>∃bl cl,e= .returned (.slice bl 91 cl)∧RawI w' bl G∧(∀b o,bl=some ⟨b,o,none⟩→W.heap.size≤b)∧Ext W w')
 (d:Nat)(hd9:d≤90)(hud:Int.tmod u 91=(d:Int))
 (hend:∀(T:List Rs)(q:Nat),T.length=q→q≤8→(∀s∈T,Sees M s)→∃x1 x2 fm hv:Int,(q=0→fm=9)∧(q≠0→fm=0∧x1≤M d∧M d≤x2∧hv≠2∧(hv=1↔x1=x2))∧∀ab ac W0,Ext w W0→RawS W0 ab T→RealC r0 r1 r2 r3 ab q ac d (M d) x1 x2 fm hv W0)
 (hsh:∀W,Ext w W→Calls prog 22 #[] W fun e w'=>e= .returned (.bool true)∧Ext W w'):
 Calls prog 14 #[.agg #[.int .i64 r0,.int .i64 r1,.int .i64 r2,.int .i64 r3],.int .u16 f,.slice pb pn pc,.slice sb sn sc,.int .u8 u] w fun e w'=>e= .returned (.bool true):=by
 have hsn2:¬(24:Int)<(sn:Int):=by omega
 have hc0:((w.alloc (.cells #[.int .i64 r0,.int .i64 r1,.int .i64 r2,.int .i64 r3] 67)).alloc (.cells #[.int .i64 r0,.int .i64 r1,.int .i64 r2,.int .i64 r3,.slice none 0 0] 70)).heap[w.heap.size]? =some (.cells #[.int .i64 r0,.int .i64 r1,.int .i64 r2,.int .i64 r3] 67):=by simp only[Z3,Z2];rw[if_neg (by omega),if_pos trivial]
 have hc1:((w.alloc (.cells #[.int .i64 r0,.int .i64 r1,.int .i64 r2,.int .i64 r3] 67)).alloc (.cells #[.int .i64 r0,.int .i64 r1,.int .i64 r2,.int .i64 r3,.slice none 0 0] 70)).heap[w.heap.size+1]? =some (.cells #[.int .i64 r0,.int .i64 r1,.int .i64 r2,.int .i64 r3,.slice none 0 0] 70):=by simp only[Z3,Z2];rw[if_pos trivial]
 have hE0:=((Ext.rfl' w).alloc (.cells #[.int .i64 r0,.int .i64 r1,.int .i64 r2,.int .i64 r3] 67)).alloc (.cells #[.int .i64 r0,.int .i64 r1,.int .i64 r2,.int .i64 r3,.slice none 0 0] 70)
 go_enter func14,ntmps14
 go_wp2_with (first
  |(go_at_call 63;refine(hck _ hE0).mono ?_;rintro e w2 ⟨rfl,hF⟩
    have hE:=hE0.trans hF;have hr0:=hF.get hc0;have hr1:=hF.get hc1
    clear hc0 hc1 hE0 hF
    have q0:=Z0 hr0 0;have q1:=Z0 hr0 1;have q2:=Z0 hr0 2;have q3:=Z0 hr0 3
    simp only[List.getElem?_toArray,List.getElem?_cons_zero,List.getElem?_cons_succ] at q0 q1 q2 q3)
  |(go_at_call 71;refine(hgr _ hE).mono ?_;rintro e w3 ⟨bG,cG,rfl,hG,hgG,hF⟩
    have hB1:=Z5 hr1
    replace hE:=hE.trans hF;replace hr0:=hF.get hr0;replace hr1:=hF.get hr1
    clear q0 q1 q2 q3 hF))
 obtain⟨gb,go,hge,hgb,_⟩:=hG 0 _ (hGM.out 0 (by omega))
 subst hge
 have hg1:w.heap.size+1<gb:=by have:=hgG gb go rfl;omega
 clear hgG hB1
 obtain⟨N,hN⟩:∃N,N=w3.heap.size:=⟨_,rfl⟩
 have hgN:gb<N:=by rw[hN];exact hgb
 have hN1:w.heap.size+1<N:=by rw[hN];exact Z5 hr1
 have hNn:N≤w3.heap.size:=by omega
 go_loopw [13] (fun v13 wr=>∃(i q:Nat)(uv:Value)(T:List Rs),v13= .int .i64 i∧i≤sn+2∧Hid (i=3*q)∧Ext w wr∧N≤wr.heap.size∧wr.heap[w.heap.size]? =some (.cells #[.int .i64 r0,.int .i64 r1,.int .i64 r2,.int .i64 r3] 67)∧wr.heap[w.heap.size+1]? =some (.cells #[.int .i64 r0,.int .i64 r1,.int .i64 r2,.int .i64 r3,uv] 70)∧OwnS N wr uv T∧RawI wr (some ⟨gb,go,none⟩) G∧Hid (T.length=q)∧Hid (∀s∈T,Sees M s)) (fun v13 _=>sn+3 - (intOf v13).toNat)
 case atStart=>exact⟨0,0,_,[],rfl,by omega,rfl,hE,hNn,hr0,hr1,World.ownsRow_nil _ _ _ _,hG,rfl,fun s hs=>by cases hs⟩
 case round=>
  clear hE hr0 hr1 hG hN hNn hgb
  obtain⟨i,q,uv,T,rfl,hi,hiq,hE,hgs,hr0,hr1,hO,hG,hTl,hT⟩:=hrel
  by_cases hc:i+2<sn
  ·have hc2:(i:Int)+2<(sn:Int):=by omega
   obtain⟨x0,hx0⟩:∃x,SH[i]? =some x:=⟨_,List.getElem?_eq_getElem (by have:=hSl.out;omega)⟩
   obtain⟨x1,hx1⟩:∃x,SH[i+1]? =some x:=⟨_,List.getElem?_eq_getElem (by have:=hSl.out;omega)⟩
   obtain⟨x2,hx2⟩:∃x,SH[i+2]? =some x:=⟨_,List.getElem?_eq_getElem (by have:=hSl.out;omega)⟩
   have b0:=hSu.out x0 (List.mem_of_getElem? hx0);have b1:=hSu.out x1 (List.mem_of_getElem? hx1);have b2:=hSu.out x2 (List.mem_of_getElem? hx2)
   obtain⟨bs,os,rfl,hbs,c0⟩:=(hSH.out.ext hE) i x0 hx0
   obtain⟨bs1,os1,e1,_,c1⟩:=(hSH.out.ext hE) (i+1) x1 hx1
   obtain⟨rfl,rfl⟩:bs=bs1∧os=os1:=by simpa using e1
   obtain⟨bs2,os2,e2,_,c2⟩:=(hSH.out.ext hE) (i+2) x2 hx2
   obtain⟨rfl,rfl⟩:bs=bs2∧os=os2:=by simpa using e2
   clear e1 e2 hx0 hx1 hx2
   obtain⟨D,hD⟩:∃D:Nat,x0 % 91=(D:Int):=⟨(x0 % 91).toNat,by omega⟩
   have hD9:D≤90:=by omega
   have hm0:Int.tmod x0 91=(D:Int):=by rw[Int.tmod_eq_emod_of_nonneg b0.1,hD]
   obtain⟨A,hA1⟩:∃A:Int,A=x1 % 50:=⟨_,rfl⟩
   obtain⟨B,hB1⟩:∃B:Int,B=x2 % 50:=⟨_,rfl⟩
   have hm1:Int.tmod x1 50=A:=by rw[Int.tmod_eq_emod_of_nonneg b1.1,hA1]
   have hm2:Int.tmod x2 50=B:=by rw[Int.tmod_eq_emod_of_nonneg b2.1,hB1]
   have hA2:0≤A∧A<50:=by omega
   have hB2:0≤B∧B<50:=by omega
   have hMD:=hM.out D hD9
   obtain⟨gb1,go1,e1,hgb1,hcm⟩:=hG D _ (hGM.out D hD9)
   obtain⟨rfl,rfl⟩:gb=gb1∧go=go1:=by simpa using e1
   clear e1 hD hA1 hB1
   obtain⟨m,hm⟩:∃m,m=M D:=⟨_,rfl⟩
   rw[←hm] at hMD hcm
   obtain⟨xl,hxl⟩:∃x,x=max 0 (m - A):=⟨_,rfl⟩
   obtain⟨xh,hxh⟩:∃x,x=min 99999 (m+B):=⟨_,rfl⟩
   have hSee:Hid (Sees M ⟨(D:Int),xl,xh,0,0⟩):=⟨by simp only;omega,by simp only[Int.toNat_natCast];rw[←hm];omega,rfl,rfl⟩
   have hlh:¬xh<xl:=by omega
   have hmm:¬(99999:Int)<m:=by omega
   replace hm:Hid (m=M D):=hm
   have g0:=Zet c0;have g1:=Zet c1;have g2:=Zet c2;have gm:=Zet hcm
   go_wp2_with fail
   refine Zfn 30 29 15 [0,1,2,3,4,5,6,7,8,9,10,11,12,13,14,15,16,17,18,19,20,21,22,23,24,25,26,27,28] (.cells #[.int .i64 0,.int .i64 0,.int .i64 0,.int .i64 0,.int .i64 0] 80) (by kernel_rfl) rfl (by kernel_rfl) rfl rfl (fun a W=>by simp[go_sem,execOp,Act.eval]) ?_
   refine Zfj [0,1,2,3,4,5,6,7,8,9,10,11,12,13,14,15,16,17,18,19,20,21,22,23,24,25,26] (by kernel_rfl) rfl rfl (by kernel_rfl) ?_
   simp only[ZeD,List.getElem?_cons_succ,List.getElem?_cons_zero,List.cons_append,List.nil_append]
   repeat (go_big_quiet_step (fail))
   refine wpQuiet_nil ?_
   have hxl2:(if A<m then m - A else 0)=xl:=by rw[hxl];split<;>omega
   have hxh2:(if m+B<99999 then m+B else 99999)=xh:=by rw[hxh];split<;>omega
   have hxl3:max 0 (m - A)=xl:=hxl.symm
   have hxh3:min 99999 (m+B)=xh:=hxh.symm
   simp only[hxl2,hxh2,hxl3,hxh3]
   clear hxl2 hxh2 hxl3 hxh3 hxl hxh
   refine Zfr 27 (f:=34) (args:= #[.int .i64 xl,.int .i64 xh]) (v:= .agg #[.int .i64 xl,.int .i64 xh]) (by kernel_rfl) rfl rfl rfl (by kernel_rfl) rfl (fun W=>by simp[go_sem,execOp,Act.eval]) (fun W _=>Z3P xl xh W) ?_
   go_simp
   refine ZjR 28 (v:= .agg #[.int .i64 D,.int .i64 xl,.int .i64 xh,.int .i64 0,.int .i64 0]) (by kernel_rfl) rfl rfl rfl (by kernel_rfl) rfl (fun W=>by simp[go_sem,execOp,Act.eval]) ?_
   go_simp
   refine Zfq (by kernel_rfl) (fun W hW b hA hbl hbo=> ?_)
   obtain⟨bx,rfl⟩:∃bx,bx=b:=⟨_,rfl⟩
   have hE4:=hW
   clear hW
   go_simp
   refine Zfp 1 (by kernel_rfl) (fun W hW=> ?_)
   simp only[List.drop_succ_cons,List.drop_zero]
   replace hbo:=hW.get hbo
   have hF:=hE4.trans hW
   have hFz:=hF
   have hbw:wr.heap.size≤bx:=hA
   have l0:=Z5 hr0;have l1:=Z5 hr1
   have hX:=ZiD hbo (.int .i64 D) (.int .i64 xl) (.int .i64 xh) (.int .i64 0) (.int .i64 0)
   have hEY:=ZiE (hE.trans hF) (show w.heap.size≤bx by have:=hE.size;omega) (.int .i64 D) (.int .i64 xl) (.int .i64 xh) (.int .i64 0) (.int .i64 0)
   have h0Y:=(ZiG W (b:=bx) (show w.heap.size≠bx by omega) (.int .i64 D) (.int .i64 xl) (.int .i64 xh) (.int .i64 0) (.int .i64 0)).trans (hF.get hr0)
   have h1Y:=(ZiG W (b:=bx) (show w.heap.size+1≠bx by omega) (.int .i64 D) (.int .i64 xl) (.int .i64 xh) (.int .i64 0) (.int .i64 0)).trans (hF.get hr1)
   have hOY:=(OwnS.ext hO hF).same (fun k hk=>ZiG W (b:=bx) (show k≠bx by have:=(hO.lt k hk).2;omega) (.int .i64 D) (.int .i64 xl) (.int .i64 xh) (.int .i64 0) (.int .i64 0))
   have hGY:=ZjA (hG.ext hF) (ZiG W (b:=bx) (show gb≠bx by omega) (.int .i64 D) (.int .i64 xl) (.int .i64 xh) (.int .i64 0) (.int .i64 0))
   obtain⟨k0,k1,k2,k3,k4⟩:=Zgj hbo
   obtain⟨f0,f1,f2,f3,f4⟩:=thaw5 hbo
   clear hE hr0 hr1 hO hG hF hW hE4 hA hbl hbo c0 c1 c2 g0 g1 g2 gm hcm
   have hE9:N≤(ZjW W bx (.int .i64 D) (.int .i64 xl) (.int .i64 xh) (.int .i64 0) (.int .i64 0)).heap.size:=Nat.le_trans hgs (ZiE hFz (Nat.le_of_lt_succ (Nat.lt_succ_of_le hbw)) _ _ _ _ _).size
   clear hFz
   unfold ZjW at hX hEY h0Y h1Y hOY hGY hE9
   go_wp2_with fail
   generalize World.setCell _ _ _=Y at hX hEY h0Y h1Y hOY hGY hE9⊢
   clear k0 k1 k2 k3 k4 f0 f1 f2 f3 f4
   refine Zfm ?_
   obtain⟨k0,k1,k2,k3,k4⟩:=Zgj hX
   obtain⟨p0,p1,p2,p3,p4⟩:=Zgj h1Y
   obtain⟨gb1,go1,e1,hgb1,hcm⟩:=hGY D _ (hGM.out D hD9)
   obtain⟨rfl,rfl⟩:gb=gb1∧go=go1:=by simpa using e1
   rw[←hm.out] at hcm
   have hz:=(Z3 Y (.cells #[.int .i64 D,.int .i64 xl,.int .i64 xh,.int .i64 0,.int .i64 0] 80) Y.heap.size).trans (if_pos rfl)
   have eA:=(Ext.rfl' Y).alloc (.cells #[.int .i64 D,.int .i64 xl,.int .i64 xh,.int .i64 0,.int .i64 0] 80)
   have hOA:=OwnS.ext hOY eA;have hGA:=hGY.ext eA;have h0A:=eA.get h0Y;have h1A:=eA.get h1Y;have hEA:=hEY.trans eA
   have hNY:N≤(Y.alloc (.cells #[.int .i64 D,.int .i64 xl,.int .i64 xh,.int .i64 0,.int .i64 0] 80)).heap.size:=Nat.le_trans (Nat.le_trans (by have:=hE9;omega) eA.size) (Nat.le_refl _)
   have hs5:∀j v,(Ziv [(⟨(D:Int),xl,xh,0,0⟩:Rs)])[j]? =some v→(Y.alloc (.cells #[.int .i64 D,.int .i64 xl,.int .i64 xh,.int .i64 0,.int .i64 0] 80)).cell? ((⟨Y.heap.size,0,none⟩:Addr).add j)=some v:=by
    intro j v hj
    have e5:Ziv [(⟨(D:Int),xl,xh,0,0⟩:Rs)]=[.int .i64 D,.int .i64 xl,.int .i64 xh,.int .i64 0,.int .i64 0]:=rfl
    rw[e5] at hj;rw[Z0c,Z0 hz];simpa using hj
   have hl6:(T++[(⟨(D:Int),xl,xh,0,0⟩:Rs)]).length=q+1:=by simp[hTl.out]
   have hq9:q≤8:=by have:=hiq.out;omega
   have hT9:T.length≤8:=by rw[hTl.out];exact hq9
   clear e1 hgb1 hX hOY hGY h0Y h1Y hEY hz
   go_wp2_with (
    at_builtin
    refine wpList_plain rfl fun K hK=> ?_
    refine Zix _ _ rfl N uv T rfl hOA ⟨Y.heap.size,0,none⟩ 1 [(⟨(D:Int),xl,xh,0,0⟩:Rs)] rfl hs5 (by simp only[List.length_cons,List.length_nil];omega) hNY (fun v6 W6 own6 hg6=>hK _ _ ?_)
    have hb6:∀b,b<N→W6.heap[b]? =(Y.alloc (.cells #[.int .i64 D,.int .i64 xl,.int .i64 xh,.int .i64 0,.int .i64 0] 80)).heap[b]? :=fun b hb=>hg6.block b (Nat.lt_of_lt_of_le hb hNY) (by intro e;have:=(hOA.lt b e.symm).1;omega)
    have h06:=(hb6 w.heap.size (by omega)).trans h0A;have h16:=(hb6 (w.heap.size+1) hN1).trans h1A
    have hG6:=ZjA hGA (hb6 gb hgN)
    have e6:=hEA.grown hg6 (fun k hk=>by have:=(hOA.lt k hk).1;omega)
    obtain⟨g6,c6,rfl,hg61,hg62,_⟩:=own6.form (by simp)
    rw[hl6] at own6⊢
    have y4:=Z0 h16 4;have f4:=Z8 h16 4
    simp only[List.getElem?_toArray,List.getElem?_cons_zero,List.getElem?_cons_succ] at y4
    have hb1:=Zb (i:=4) h16 (.slice (some ⟨g6,0,none⟩) (q+1) c6)
    have hb0:=(set_ne (w:=W6) (a:=⟨w.heap.size+1,4,none⟩) (show w.heap.size≠w.heap.size+1 by omega) (.slice (some ⟨g6,0,none⟩) (q+1) c6)).trans h06
    have ownF:=own6.same (fun k hk=>set_ne (w:=W6) (a:=⟨w.heap.size+1,4,none⟩) (show k≠w.heap.size+1 by have:=(own6.lt k hk).1;omega) (.slice (some ⟨g6,0,none⟩) (q+1) c6))
    have eF:=e6.setCell ⟨w.heap.size+1,4,none⟩ (.slice (some ⟨g6,0,none⟩) (q+1) c6) (show w.heap.size≤w.heap.size+1 by omega)
    have hGF:=ZjA hG6 (set_ne (w:=W6) (a:=⟨w.heap.size+1,4,none⟩) (show gb≠w.heap.size+1 by omega) (.slice (some ⟨g6,0,none⟩) (q+1) c6))
    have hsz:N≤(W6.setCell ⟨w.heap.size+1,4,none⟩ (.slice (some ⟨g6,0,none⟩) (q+1) c6)).heap.size:=by rw[(Go.Conc.aside_setCell _ _ _).size];exact Nat.le_trans hNY hg6.size)
   exact⟨⟨i+3,q+1,_,T++[(⟨(D:Int),xl,xh,0,0⟩:Rs)],by push_cast;rfl,by omega,by show _=_;have:=hiq.out;omega,eF,hsz,hb0,hb1,ownF,hGF,hl6,fun s hs=>by
    rcases List.mem_append.1 hs with hs|hs
    ·exact hT.out s hs
    ·rw[List.mem_singleton.1 hs];exact hSee.out⟩,by simp[intOf];omega⟩
  ·have hc2:¬(i:Int)+2<(sn:Int):=by omega
   obtain⟨x1,x2,fm,hv,hz,hnz,hRC⟩:=hend T q hTl.out (by have:=hiq.out;omega) hT.out
   obtain⟨ab,ac,rfl,hraw,_⟩:=hO.raw
   rw[hTl.out] at hr1 hO
   have hR:=hRC ab ac _ hE hraw
   have hE0:=Ext.rfl' wr
   have hq8:q≤8:=by have:=hiq.out;omega
   obtain⟨q0,q1,q2,q3,q4⟩:=Zgj hr1
   clear hO hraw hRC hr0 hT hTl hiq
   by_cases hq0:q=0
   ·obtain rfl:=hz hq0
    subst hq0
    clear hnz hz
    go_wp2_with (first
     |(go_at_call 64;refine(hR.h64 _ hE0).mono ?_;rintro e w4 ⟨rfl,hF⟩;replace hE:=hE.trans hF;replace hE0:=hE0.trans hF;replace hr1:=hF.get hr1;replace hG:=hG.ext hF;clear q0 q1 q2 q3 q4;obtain⟨q0,q1,q2,q3,q4⟩:=Zgj hr1)
     |(go_at_call 66;refine(hR.h66 _ hE0).mono ?_;rintro e w5 ⟨b6,c6,rfl,hF⟩;replace hE:=hE.trans hF;replace hE0:=hE0.trans hF;replace hr1:=hF.get hr1;replace hG:=hG.ext hF;clear q0 q1 q2 q3 q4;obtain⟨q0,q1,q2,q3,q4⟩:=Zgj hr1)
     |(go_at_call 68;refine(hR.h68 _ hE0).mono ?_;rintro e w6 ⟨b7,c7,rfl,hI,hF⟩;replace hE:=hE.trans hF;replace hE0:=hE0.trans hF;replace hr1:=hF.get hr1;replace hG:=hG.ext hF;clear q0 q1 q2 q3 q4;obtain⟨q0,q1,q2,q3,q4⟩:=Zgj hr1)
     |(go_at_call 44;refine(hR.h44 _ hE0).mono ?_;rintro e w7 ⟨b8,c8,rfl,hI2,hF⟩;replace hE:=hE.trans hF;replace hE0:=hE0.trans hF;replace hr1:=hF.get hr1;replace hG:=hG.ext hF;clear q0 q1 q2 q3 q4;obtain⟨q0,q1,q2,q3,q4⟩:=Zgj hr1;replace hI:=hI.ext hF)
     |(go_at_call 58;refine(Z1d b7 _ c7 _ b8 _ c8 _ _ (Zj5 _) (Zj5 _) (by omega) hI hI2).mono ?_;rw[decide_eq_true rfl];rintro e w8 ⟨rfl,hF⟩;replace hE:=hE.trans hF;replace hE0:=hE0.trans hF;replace hr1:=hF.get hr1;replace hG:=hG.ext hF;clear q0 q1 q2 q3 q4;obtain⟨q0,q1,q2,q3,q4⟩:=Zgj hr1;clear hI hI2)
     |(go_at_call 45;refine(hR.h45 _ hE0).mono ?_;rintro e w9 ⟨rfl,hF⟩
       have hx:=(Z3 w9 (.cells #[.int .i64 x1,.int .i64 x2] 48) w9.heap.size).trans (if_pos rfl)
       replace hF:=hF.alloc (.cells #[.int .i64 x1,.int .i64 x2] 48);replace hE:=hE.trans hF;replace hE0:=hE0.trans hF;replace hr1:=hF.get hr1;replace hG:=hG.ext hF;clear q0 q1 q2 q3 q4
       obtain⟨q0,q1,q2,q3,q4⟩:=Zgj hr1)
     |(go_at_call 22;refine(hsh _ hE).mono ?_;rintro e w10 ⟨rfl,hF⟩))
    go_ret
    exact rfl
   ·obtain⟨rfl,ha,hb,hv2,hv1⟩:=hnz hq0
    have hqn:((q:Int)==0)=false:=beq_eq_false_iff_ne.2 (by omega)
    have hMd:=hM.out d hd9
    have hmm:¬(99999:Int)<M d:=by omega
    have ha2:¬M d<x1:=by omega
    have hb2:¬x2<M d:=by omega
    clear hnz hz
    go_wp2_with (first
     |(go_at_call 64;refine(hR.h64 _ hE0).mono ?_;rintro e w4 ⟨rfl,hF⟩;replace hE:=hE.trans hF;replace hE0:=hE0.trans hF;replace hr1:=hF.get hr1;replace hG:=hG.ext hF;clear q0 q1 q2 q3 q4;obtain⟨q0,q1,q2,q3,q4⟩:=Zgj hr1)
     |(go_at_call 66;refine(hR.h66 _ hE0).mono ?_;rintro e w5 ⟨b6,c6,rfl,hF⟩;replace hE:=hE.trans hF;replace hE0:=hE0.trans hF;replace hr1:=hF.get hr1;replace hG:=hG.ext hF;clear q0 q1 q2 q3 q4;obtain⟨q0,q1,q2,q3,q4⟩:=Zgj hr1)
     |(go_at_call 68;refine(hR.h68 _ hE0).mono ?_;rintro e w6 ⟨b7,c7,rfl,hI,hF⟩;replace hE:=hE.trans hF;replace hE0:=hE0.trans hF;replace hr1:=hF.get hr1;replace hG:=hG.ext hF;clear q0 q1 q2 q3 q4;obtain⟨q0,q1,q2,q3,q4⟩:=Zgj hr1)
     |(go_at_call 44;refine(hR.h44 _ hE0).mono ?_;rintro e w7 ⟨b8,c8,rfl,hI2,hF⟩;replace hE:=hE.trans hF;replace hE0:=hE0.trans hF;replace hr1:=hF.get hr1;replace hG:=hG.ext hF;clear q0 q1 q2 q3 q4;obtain⟨q0,q1,q2,q3,q4⟩:=Zgj hr1;replace hI:=hI.ext hF)
     |(go_at_call 58;refine(Z1d b7 _ c7 _ b8 _ c8 _ _ (Zj5 _) (Zj5 _) (by omega) hI hI2).mono ?_;rw[decide_eq_true rfl];rintro e w8 ⟨rfl,hF⟩;replace hE:=hE.trans hF;replace hE0:=hE0.trans hF;replace hr1:=hF.get hr1;replace hG:=hG.ext hF;clear q0 q1 q2 q3 q4;obtain⟨q0,q1,q2,q3,q4⟩:=Zgj hr1;clear hI hI2)
     |(go_at_call 45;refine(hR.h45 _ hE0).mono ?_;rintro e w9 ⟨rfl,hF⟩
       have hx:=(Z3 w9 (.cells #[.int .i64 x1,.int .i64 x2] 48) w9.heap.size).trans (if_pos rfl)
       replace hF:=hF.alloc (.cells #[.int .i64 x1,.int .i64 x2] 48);replace hE:=hE.trans hF;replace hE0:=hE0.trans hF;replace hr1:=hF.get hr1;replace hG:=hG.ext hF;clear q0 q1 q2 q3 q4
       obtain⟨q0,q1,q2,q3,q4⟩:=Zgj hr1))
    have p:=Zc hx;have p0:=p.1;have p1:=p.2.1
    obtain⟨gb1,go1,e1,hgb1,hcm⟩:=hG d _ (hGM.out d hd9)
    obtain⟨rfl,rfl⟩:gb=gb1∧go=go1:=by simpa using e1
    clear p e1
    have g0:=Zet p0;have g1:=Zet p1;have gm:=Zet hcm
    have ha3:decide (M d<x1)=false:=decide_eq_false (by omega)
    have hb3:decide (x2<M d)=false:=decide_eq_false (by omega)
    refine ZeG 20 (by kernel_rfl) ?_
    refine ZeB [0,1,2,3,4,5,6,7,8,9,10,11,12,13,14,15,16,17,18,19] (by kernel_rfl) (by kernel_rfl) ?_
    simp only[ZeD,List.getElem?_cons_succ,List.getElem?_cons_zero,List.cons_append,List.nil_append]
    repeat (go_big_quiet_step (fail))
    refine wpQuiet_nil ?_
    refine Zf6 (by kernel_rfl) (fun W hW=> ?_)
    replace hE:=hE.trans hW;replace hr1:=hW.get hr1;replace hx:=hW.get hx;replace hG:=hG.ext hW
    have hEr:=hE0.trans hW
    clear g0 g1 gm p0 p1 hcm q0 q1 q2 q3 q4
    obtain⟨gb1,go1,e1,hgb1,hcm⟩:=hG d _ (hGM.out d hd9)
    obtain⟨rfl,rfl⟩:gb=gb1∧go=go1:=by simpa using e1
    obtain⟨q0,q1,q2,q3,q4⟩:=Zgj hr1
    go_wp2_with fail
    have g0:=Zet q0;have g1:=Zet q1;have g2:=Zet q2;have g3:=Zet q3;have g4:=Zet q4;have gm:=Zet hcm
    refine ZeG 12 (by kernel_rfl) ?_
    refine ZeB [0,1,2,3,4,5] (by kernel_rfl) (by kernel_rfl) ?_
    simp only[ZeD,List.getElem?_cons_succ,List.getElem?_cons_zero,List.cons_append,List.nil_append]
    repeat (go_big_quiet_step (fail))
    refine wpQuiet_nil ?_
    refine ZeX 6 (f:=53) (args:= #[.agg #[.int .i64 r0,.int .i64 r1,.int .i64 r2,.int .i64 r3,.slice ab q ac],.int .i64 d,.int .i64 (M d),.int .i64 0]) (v:= .tuple #[.int .i64 hv,.int .i64 0]) (by kernel_rfl) rfl (by kernel_rfl) rfl (fun W=>by simp[go_sem,execOp,Act.eval]) (fun W hW=>hR.h53 hq0 W (hEr.trans hW)) ?_
    go_simp
    refine ZeB [7,8,9,10,11] (by kernel_rfl) (by kernel_rfl) ?_
    simp only[ZeD,List.getElem?_cons_succ,List.getElem?_cons_zero,List.cons_append,List.nil_append]
    repeat (go_big_quiet_step (fail))
    refine wpQuiet_nil ?_
    refine Zf6 (by kernel_rfl) (fun W hW=> ?_)
    replace hE:=hE.trans hW;replace hx:=hW.get hx
    clear g0 g1 g2 g3 g4 gm q0 q1 q2 q3 q4 hcm hEr
    have p:=Zc hx;have p0:=p.1;have p1:=p.2.1
    clear p
    by_cases h12:x1=x2
    ·obtain rfl:=hv1.2 h12
     subst h12
     clear hv1 hv2 hR
     go_wp2_with (first|(go_at_call 22;refine(hsh _ hE).mono ?_;rintro e w9 ⟨rfl,hF⟩))
     go_ret
     exact rfl
    ·have hn:(hv==1)=false:=by
      rw[beq_eq_false_iff_ne];exact fun e=>h12 (hv1.1 e)
     have hn2:(hv !=2)=true:=by simpa using hv2
     have hn3:(x1==x2)=false:=by simpa using h12
     clear hv1 hv2 hR
     go_wp2_with (first|(go_at_call 22;refine(hsh _ hE).mono ?_;rintro e w9 ⟨rfl,hF⟩))
     go_ret
     exact rfl
end Go.Proofs.Tryq
namespace Go.Proofs.Tryq
set_option maxRecDepth 100000
set_option maxHeartbeats 4000000
open Go Go.Nk Go.RowKit
theorem Zgh(s:Rs):okS s=(inR s.a 0 90&&decide (0≤s.m∧s.m≤s.M∧s.M≤99999)&&inR s.wi 0 9&&inR s.li 0 9):=rfl
theorem Zga(r0 r1 r2 r3:Int):Z5y r0 r1 r2 r3=if inR r0 0 999&&inR r1 0 999&&inR r2 0 999&&inR r3 0 999&&decide (r0≤r1) then 0 else 1:=rfl
theorem ZfQ(r0 r1 r2 r3:Int)(base:Option Addr)(n cap:Nat)(S:List Rs)(w:World)(hlen:S.length=n)(hS:RawS w base S):
 Calls prog 63 #[.agg #[.int .i64 r0,.int .i64 r1,.int .i64 r2,.int .i64 r3,.slice base n cap]] w fun e w'=>e= .returned (.int .i64 (ZC r0 r1 r2 r3 S))∧Ext w w':=by
 have H0:Hid (ZC r0 r1 r2 r3 S=if inR r0 0 999&&inR r1 0 999&&inR r2 0 999&&inR r3 0 999&&decide (r0≤r1) then(if 8<n then 2 else if(S.drop 0).all okS then 0 else 1) else 1):=by
  show _=_
  rw[ZC,firstV,Zga]
  by_cases h:(inR r0 0 999&&inR r1 0 999&&inR r2 0 999&&inR r3 0 999&&decide (r0≤r1))=true
  ·rw[if_pos h,if_pos h,if_pos rfl,firstV,Z23,hlen]
   by_cases h8:8<n
   ·simp[h8]
   ·rw[if_neg h8,List.drop_zero]
    by_cases ha:S.all okS=true
    ·simp[h8,ha,firstV]
    ·simp[h8,ha]
  ·rw[if_neg h,if_neg h,if_neg (by decide)]
 have hr0:=fun W=>Zgc r0 0 999 W;have hr1:=fun W=>Zgc r1 0 999 W;have hr2:=fun W=>Zgc r2 0 999 W;have hr3:=fun W=>Zgc r3 0 999 W
 generalize inR r0 0 999=b0 at*
 generalize inR r1 0 999=b1 at*
 generalize inR r2 0 999=b2 at*
 generalize inR r3 0 999=b3 at*
 have hE0:=((Ext.rfl' w).alloc (.cells #[.int .i64 r0,.int .i64 r1,.int .i64 r2,.int .i64 r3,.slice base n cap] 70)).alloc (.cells #[.int .i64 r0,.int .i64 r1,.int .i64 r2,.int .i64 r3] 67)
 have hb0:((w.alloc (.cells #[.int .i64 r0,.int .i64 r1,.int .i64 r2,.int .i64 r3,.slice base n cap] 70)).alloc (.cells #[.int .i64 r0,.int .i64 r1,.int .i64 r2,.int .i64 r3] 67)).heap[w.heap.size]? =some (.cells #[.int .i64 r0,.int .i64 r1,.int .i64 r2,.int .i64 r3,.slice base n cap] 70):=by
  simp only[Z3,Z2];rw[if_neg (by omega),if_pos trivial]
 replace hlen:Hid (S.length=n):=hlen
 have hS2:Hid (RawS w base S):=hS
 clear hS
 cases b0 with
 |false=>(
   have H1:Hid (ZC r0 r1 r2 r3 S=1):=by show _=_;rw[H0.out];simp
   clear H0
   go_enter func63,ntmps63
   go_wp2_with (first|(go_at_call 93;(with_reducible refine(hr0 _).mono ?_);rintro e w2 ⟨rfl,rfl⟩)|(go_at_call 93;(with_reducible refine(hr1 _).mono ?_);rintro e w2 ⟨rfl,rfl⟩)|(go_at_call 93;(with_reducible refine(hr2 _).mono ?_);rintro e w2 ⟨rfl,rfl⟩)|(go_at_call 93;(with_reducible refine(hr3 _).mono ?_);rintro e w2 ⟨rfl,rfl⟩))
   go_ret
   exact⟨ZK (a:=1) H1.out.symm,hE0⟩)
 |true=>
  cases b1 with
  |false=>(
    have H1:Hid (ZC r0 r1 r2 r3 S=1):=by show _=_;rw[H0.out];simp
    clear H0
    go_enter func63,ntmps63
    go_wp2_with (first|(go_at_call 93;(with_reducible refine(hr0 _).mono ?_);rintro e w2 ⟨rfl,rfl⟩)|(go_at_call 93;(with_reducible refine(hr1 _).mono ?_);rintro e w2 ⟨rfl,rfl⟩)|(go_at_call 93;(with_reducible refine(hr2 _).mono ?_);rintro e w2 ⟨rfl,rfl⟩)|(go_at_call 93;(with_reducible refine(hr3 _).mono ?_);rintro e w2 ⟨rfl,rfl⟩))
    go_ret
    exact⟨ZK (a:=1) H1.out.symm,hE0⟩)
  |true=>
   cases b2 with
   |false=>(
     have H1:Hid (ZC r0 r1 r2 r3 S=1):=by show _=_;rw[H0.out];simp
     clear H0
     go_enter func63,ntmps63
     go_wp2_with (first|(go_at_call 93;(with_reducible refine(hr0 _).mono ?_);rintro e w2 ⟨rfl,rfl⟩)|(go_at_call 93;(with_reducible refine(hr1 _).mono ?_);rintro e w2 ⟨rfl,rfl⟩)|(go_at_call 93;(with_reducible refine(hr2 _).mono ?_);rintro e w2 ⟨rfl,rfl⟩)|(go_at_call 93;(with_reducible refine(hr3 _).mono ?_);rintro e w2 ⟨rfl,rfl⟩))
     go_ret
     exact⟨ZK (a:=1) H1.out.symm,hE0⟩)
   |true=>
    cases b3 with
    |false=>(
      have H1:Hid (ZC r0 r1 r2 r3 S=1):=by show _=_;rw[H0.out];simp
      clear H0
      go_enter func63,ntmps63
      go_wp2_with (first|(go_at_call 93;(with_reducible refine(hr0 _).mono ?_);rintro e w2 ⟨rfl,rfl⟩)|(go_at_call 93;(with_reducible refine(hr1 _).mono ?_);rintro e w2 ⟨rfl,rfl⟩)|(go_at_call 93;(with_reducible refine(hr2 _).mono ?_);rintro e w2 ⟨rfl,rfl⟩)|(go_at_call 93;(with_reducible refine(hr3 _).mono ?_);rintro e w2 ⟨rfl,rfl⟩))
      go_ret
      exact⟨ZK (a:=1) H1.out.symm,hE0⟩)
    |true=>
     by_cases hr:r0≤r1
     ·have hrd:decide (r0≤r1)=true:=decide_eq_true hr
      rw[hrd] at H0
      simp only[Bool.and_self,if_true] at H0
      clear hrd
      by_cases h8:8<n
      ·have h8i:(8:Int)<(n:Int):=by omega
       have H1:Hid (ZC r0 r1 r2 r3 S=2):=by show _=_;rw[H0.out,if_pos h8]
       clear H0 h8
       go_enter func63,ntmps63
       go_wp2_with (first|(go_at_call 93;(with_reducible refine(hr0 _).mono ?_);rintro e w2 ⟨rfl,rfl⟩)|(go_at_call 93;(with_reducible refine(hr1 _).mono ?_);rintro e w2 ⟨rfl,rfl⟩)|(go_at_call 93;(with_reducible refine(hr2 _).mono ?_);rintro e w2 ⟨rfl,rfl⟩)|(go_at_call 93;(with_reducible refine(hr3 _).mono ?_);rintro e w2 ⟨rfl,rfl⟩))
       go_ret
       exact⟨ZK (a:=2) H1.out.symm,hE0⟩
      ·have h8i:(n:Int)≤8:=by omega
       have H1:Hid (ZC r0 r1 r2 r3 S=if(S.drop 0).all okS then 0 else 1):=by show _=_;rw[H0.out,if_neg h8]
       clear H0 h8
       go_enter func63,ntmps63
       go_wp2_with (first|(go_at_call 93;(with_reducible refine(hr0 _).mono ?_);rintro e w2 ⟨rfl,rfl⟩)|(go_at_call 93;(with_reducible refine(hr1 _).mono ?_);rintro e w2 ⟨rfl,rfl⟩)|(go_at_call 93;(with_reducible refine(hr2 _).mono ?_);rintro e w2 ⟨rfl,rfl⟩)|(go_at_call 93;(with_reducible refine(hr3 _).mono ?_);rintro e w2 ⟨rfl,rfl⟩))
       clear hr0 hr1 hr2 hr3
       go_loopw [4] (fun v wr=>∃i:Nat,i≤n∧v= .int .i64 i∧Ext w wr∧wr.heap[w.heap.size]? =some (.cells #[.int .i64 r0,.int .i64 r1,.int .i64 r2,.int .i64 r3,.slice base n cap] 70)∧Hid (ZC r0 r1 r2 r3 S=if(S.drop i).all okS then 0 else 1)) (fun v _=>n - (intOf v).toNat)
       case atStart=>exact⟨0,Nat.zero_le _,rfl,hE0,hb0,H1⟩
       case round=>
        clear hE0 hb0 H1
        obtain⟨i,hi,rfl,hE,hb,HP⟩:=hrel
        have q4:=Z0 hb 4
        simp only[List.getElem?_toArray,List.getElem?_cons_zero,List.getElem?_cons_succ] at q4
        by_cases hin:i=n
        ·subst hin
         have HR:Hid (ZC r0 r1 r2 r3 S=0):=by show _=_;rw[HP.out,List.drop_of_length_le (by have:=hlen.out;omega)];rfl
         clear HP
         go_wp2
         go_ret
         exact⟨ZK (a:=0) HR.out.symm,hE⟩
        ·have hlt:i<n:=by omega
         have hlt2:(i:Int)<(n:Int):=by omega
         obtain⟨s,hs⟩:∃s,S[i]? =some s:=⟨_,List.getElem?_eq_getElem (by have:=hlen.out;omega)⟩
         obtain⟨BS,OS,rfl,hBS,sh⟩:=hS2.out i s hs
         have HN:Hid (ZC r0 r1 r2 r3 S=if inR s.a 0 90&&decide (0≤s.m∧s.m≤s.M∧s.M≤99999)&&inR s.wi 0 9&&inR s.li 0 9&&(S.drop (i+1)).all okS then 0 else 1):=by show _=_;rw[HP.out,Z0b hs,List.all_cons,Zgh]
         have s0:=hE.cellS sh.c0;have s1:=hE.cellS sh.c1;have s2:=hE.cellS sh.c2;have s3:=hE.cellS sh.c3;have s4:=hE.cellS sh.c4
         have hr0:=fun W=>Zgc s.a 0 90 W;have hr2:=fun W=>Zgc s.wi 0 9 W;have hr3:=fun W=>Zgc s.li 0 9 W
         have hr1:=fun W=>Z2e s.m s.M 0 99999 W
         clear HP hs sh hS2
         generalize inR s.a 0 90=b0 at*
         generalize decide (0≤s.m∧s.m≤s.M∧s.M≤99999)=b1 at*
         generalize inR s.wi 0 9=b2 at*
         generalize inR s.li 0 9=b3 at*
         have hE2:=hE.alloc (.cells #[.int .i64 s.a,.int .i64 s.m,.int .i64 s.M,.int .i64 s.wi,.int .i64 s.li] 80)
         have hb2:=((Ext.rfl' wr).alloc (.cells #[.int .i64 s.a,.int .i64 s.m,.int .i64 s.M,.int .i64 s.wi,.int .i64 s.li] 80)).get hb
         have hx2:(wr.alloc (.cells #[.int .i64 s.a,.int .i64 s.m,.int .i64 s.M,.int .i64 s.wi,.int .i64 s.li] 80)).heap[wr.heap.size]? =some (.cells #[.int .i64 s.a,.int .i64 s.m,.int .i64 s.M,.int .i64 s.wi,.int .i64 s.li] 80):=by rw[Z3,if_pos rfl]
         cases b0 with
         |false=>(
           have HN2:Hid (ZC r0 r1 r2 r3 S=1):=by show _=_;rw[HN.out];simp
           clear HN
           go_wp2_with (first|(go_at_call 93;(with_reducible refine(hr0 _).mono ?_);rintro e w2 ⟨rfl,rfl⟩)|(go_at_call 95;(with_reducible refine(hr1 _).mono ?_);rintro e w9 ⟨rfl,hE9⟩;replace hE2:=hE2.trans hE9;replace hb2:=hE9.get hb2;replace hx2:=hE9.get hx2;clear hE9;have y0:=Z0 hx2 0;have y1:=Z0 hx2 1;have y2:=Z0 hx2 2;have y3:=Z0 hx2 3;have y4:=Z0 hx2 4;simp only[List.getElem?_toArray,List.getElem?_cons_zero,List.getElem?_cons_succ] at y0 y1 y2 y3 y4)|(go_at_call 93;(with_reducible refine(hr2 _).mono ?_);rintro e w2 ⟨rfl,rfl⟩)|(go_at_call 93;(with_reducible refine(hr3 _).mono ?_);rintro e w2 ⟨rfl,rfl⟩))
           go_ret
           exact⟨ZK (a:=1) HN2.out.symm,hE2⟩)
         |true=>
          cases b1 with
          |false=>(
            have HN2:Hid (ZC r0 r1 r2 r3 S=1):=by show _=_;rw[HN.out];simp
            clear HN
            go_wp2_with (first|(go_at_call 93;(with_reducible refine(hr0 _).mono ?_);rintro e w2 ⟨rfl,rfl⟩)|(go_at_call 95;(with_reducible refine(hr1 _).mono ?_);rintro e w9 ⟨rfl,hE9⟩;replace hE2:=hE2.trans hE9;replace hb2:=hE9.get hb2;replace hx2:=hE9.get hx2;clear hE9;have y0:=Z0 hx2 0;have y1:=Z0 hx2 1;have y2:=Z0 hx2 2;have y3:=Z0 hx2 3;have y4:=Z0 hx2 4;simp only[List.getElem?_toArray,List.getElem?_cons_zero,List.getElem?_cons_succ] at y0 y1 y2 y3 y4)|(go_at_call 93;(with_reducible refine(hr2 _).mono ?_);rintro e w2 ⟨rfl,rfl⟩)|(go_at_call 93;(with_reducible refine(hr3 _).mono ?_);rintro e w2 ⟨rfl,rfl⟩))
            go_ret
            exact⟨ZK (a:=1) HN2.out.symm,hE2⟩)
          |true=>
           cases b2 with
           |false=>(
             have HN2:Hid (ZC r0 r1 r2 r3 S=1):=by show _=_;rw[HN.out];simp
             clear HN
             go_wp2_with (first|(go_at_call 93;(with_reducible refine(hr0 _).mono ?_);rintro e w2 ⟨rfl,rfl⟩)|(go_at_call 95;(with_reducible refine(hr1 _).mono ?_);rintro e w9 ⟨rfl,hE9⟩;replace hE2:=hE2.trans hE9;replace hb2:=hE9.get hb2;replace hx2:=hE9.get hx2;clear hE9;have y0:=Z0 hx2 0;have y1:=Z0 hx2 1;have y2:=Z0 hx2 2;have y3:=Z0 hx2 3;have y4:=Z0 hx2 4;simp only[List.getElem?_toArray,List.getElem?_cons_zero,List.getElem?_cons_succ] at y0 y1 y2 y3 y4)|(go_at_call 93;(with_reducible refine(hr2 _).mono ?_);rintro e w2 ⟨rfl,rfl⟩)|(go_at_call 93;(with_reducible refine(hr3 _).mono ?_);rintro e w2 ⟨rfl,rfl⟩))
             go_ret
             exact⟨ZK (a:=1) HN2.out.symm,hE2⟩)
           |true=>
            cases b3 with
            |false=>(
              have HN2:Hid (ZC r0 r1 r2 r3 S=1):=by show _=_;rw[HN.out];simp
              clear HN
              go_wp2_with (first|(go_at_call 93;(with_reducible refine(hr0 _).mono ?_);rintro e w2 ⟨rfl,rfl⟩)|(go_at_call 95;(with_reducible refine(hr1 _).mono ?_);rintro e w9 ⟨rfl,hE9⟩;replace hE2:=hE2.trans hE9;replace hb2:=hE9.get hb2;replace hx2:=hE9.get hx2;clear hE9;have y0:=Z0 hx2 0;have y1:=Z0 hx2 1;have y2:=Z0 hx2 2;have y3:=Z0 hx2 3;have y4:=Z0 hx2 4;simp only[List.getElem?_toArray,List.getElem?_cons_zero,List.getElem?_cons_succ] at y0 y1 y2 y3 y4)|(go_at_call 93;(with_reducible refine(hr2 _).mono ?_);rintro e w2 ⟨rfl,rfl⟩)|(go_at_call 93;(with_reducible refine(hr3 _).mono ?_);rintro e w2 ⟨rfl,rfl⟩))
              go_ret
              exact⟨ZK (a:=1) HN2.out.symm,hE2⟩)
            |true=>
             have HN2:Hid (ZC r0 r1 r2 r3 S=if(S.drop (i+1)).all okS then 0 else 1):=by show _=_;rw[HN.out];rfl
             clear HN
             go_wp2_with (first|(go_at_call 93;(with_reducible refine(hr0 _).mono ?_);rintro e w2 ⟨rfl,rfl⟩)|(go_at_call 95;(with_reducible refine(hr1 _).mono ?_);rintro e w9 ⟨rfl,hE9⟩;replace hE2:=hE2.trans hE9;replace hb2:=hE9.get hb2;replace hx2:=hE9.get hx2;clear hE9;have y0:=Z0 hx2 0;have y1:=Z0 hx2 1;have y2:=Z0 hx2 2;have y3:=Z0 hx2 3;have y4:=Z0 hx2 4;simp only[List.getElem?_toArray,List.getElem?_cons_zero,List.getElem?_cons_succ] at y0 y1 y2 y3 y4)|(go_at_call 93;(with_reducible refine(hr2 _).mono ?_);rintro e w2 ⟨rfl,rfl⟩)|(go_at_call 93;(with_reducible refine(hr3 _).mono ?_);rintro e w2 ⟨rfl,rfl⟩))
             go_roundw
             case rel=>exact⟨i+1,by omega,by push_cast;rfl,hE2,hb2,HN2⟩
             case measure=>simp[intOf];omega
     ·have hrd:decide (r0≤r1)=false:=decide_eq_false hr
      have hri:r1<r0:=by omega
      have H1:Hid (ZC r0 r1 r2 r3 S=1):=by show _=_;rw[H0.out,hrd];simp
      clear H0 hrd
      go_enter func63,ntmps63
      go_wp2_with (first|(go_at_call 93;(with_reducible refine(hr0 _).mono ?_);rintro e w2 ⟨rfl,rfl⟩)|(go_at_call 93;(with_reducible refine(hr1 _).mono ?_);rintro e w2 ⟨rfl,rfl⟩)|(go_at_call 93;(with_reducible refine(hr2 _).mono ?_);rintro e w2 ⟨rfl,rfl⟩)|(go_at_call 93;(with_reducible refine(hr3 _).mono ?_);rintro e w2 ⟨rfl,rfl⟩))
      go_ret
      exact⟨ZK (a:=1) H1.out.symm,hE0⟩
end Go.Proofs.Tryq
namespace Go.Proofs.Tryq
open Go Go.Nk Go.RowKit
set_option linter.all false
theorem ZjM{r0 r1 r2 r3:Int}{T:List Rs}(hc:ZC r0 r1 r2 r3 T=0):(ZC r0 r1 r2 r3 T==0&&Zz (cvS r0 r1 r2 r3 (T.map Ze)) (2 ^ T.length - 1) T.length)=Zj8 r0 r1 r2 r3 T:=by
 have hok:=Zav hc
 have h1:1≤2 ^ T.length:=Nat.one_le_two_pow
 have:=Z6X hok (k:=2 ^ T.length - 1) (by omega)
 rw[ZfU hok.len] at this
 rw[hc,ZfY,this]
 rfl
theorem ZjV{r0 r1 r2 r3 d:Int}{T:List Rs}(hc:ZC r0 r1 r2 r3 T=0)(hd:0≤d∧d≤90)(h0:T.length=0):markF r0 r1 r2 r3 T d=9:=by
 have h1:=ZfS hd
 have h2:ZdW T.length=9:=by rw[ZdW,if_pos (by omega)]
 simp only[markF,Zy,List.cons_append,List.nil_append,firstV,hc,h1,h2]
 rfl
theorem ZjX{r0 r1 r2 r3 f:Int}{P:List Int}{w:World}(hmo:Most w)(hde:Deb w)(hr:ZC r0 r1 r2 r3 []=0){d:Nat}(hd:d≤90)(T:List Rs)(q:Nat)(hT:T.length=q)(hq:q≤8)(hs:∀s∈T,Sees (grw r0 r1 f P) s):
 ∃x1 x2 fm hv:Int,(q=0→fm=9)∧(q≠0→fm=0∧x1≤grw r0 r1 f P d∧grw r0 r1 f P d≤x2∧hv≠2∧(hv=1↔x1=x2))∧∀ab ac W0,Ext w W0→RawS W0 ab T→RealC r0 r1 r2 r3 ab q ac d (grw r0 r1 f P d) x1 x2 fm hv W0:=by
 have hok:=Zav hr
 have hl8:T.length≤8:=by omega
 have htr:=ZjP hok.h1.1 f P
 have hin:=ZjJ hok.h0 hok.h1.1 hok.h1.2 f P d
 have hcd:=sees_card hr hl8 hs
 have hft:=ZjC hr hl8 htr hs
 obtain⟨hcl,htl⟩:=ZjK hr hl8 htr hs
 refine⟨_,_,_,Z6c r0 r1 r2 r3 T d (grw r0 r1 f P d) 0,fun h0=>ZjV (d:=d) hcd (by omega) (by omega),fun h0=> ?_,fun ab ac W0 hW0 hraw=>⟨?_,?_,?_,?_,fun W hW=>Z86 r0 r1 r2 r3 ab q ac W d T hT (hraw.ext hW) (hmo.ext (hW0.trans hW)),fun h0 W hW=> ?_⟩⟩
 ·have hg:=ZjE hr hl8 htr hs (fun e=>h0 (by rw[←hT,e];rfl))
  have hm:=ZjF hg htr hs hd
  have hh:=ZjU hg htr hs hd (by omega)
  rw[hg.markF (by omega),hg.markR (by omega)]
  exact⟨rfl,hm.1,hm.2,hh.1,hh.2⟩
 ·intro W hW
  have:=ZhY r0 r1 r2 r3 ab q ac T W hT (hraw.ext hW) (hmo.ext (hW0.trans hW))
  subst hT
  rw[ZjM hcd,hcd,hft] at this
  exact this
 ·intro W hW
  refine(Zas r0 r1 r2 r3 ab q ac T W hT (hraw.ext hW) (hmo.ext (hW0.trans hW)) (hde.ext (hW0.trans hW))).mono ?_
  rintro e w' ⟨v,rfl,hv,hE⟩
  rw[if_pos hcd,hcl] at hv
  obtain⟨bl,cl,rfl,_,_⟩:=hv.rawI
  exact⟨bl,cl,by rw[hcd];rfl,hE⟩
 ·intro W hW
  refine(Zat r0 r1 r2 r3 ab q ac T W hT (hraw.ext hW) (hmo.ext (hW0.trans hW)) (hde.ext (hW0.trans hW))).mono ?_
  rintro e w' ⟨v,rfl,hv,hE⟩
  rw[if_pos hcd,htl,hT] at hv
  obtain⟨bl,cl,rfl,hI,_⟩:=hv.rawI
  exact⟨bl,cl,by rw[hcd,Zj5],hI,hE⟩
 ·intro W hW
  refine(Zg9 q W (by omega)).mono ?_
  rintro e w' ⟨v,rfl,hv,hE⟩
  obtain⟨bl,cl,rfl,hI,_⟩:=hv.rawI
  exact⟨bl,cl,by rw[Zj5],hI,hE⟩
 ·have hg:=ZjE hr hl8 htr hs (fun e=>h0 (by rw[←hT,e];rfl))
  have:=Zc7 r0 r1 r2 r3 ab q ac W d (grw r0 r1 f P d) 0 T hT (hraw.ext hW) (hmo.ext (hW0.trans hW))
  rw[hg.hitsF (by omega) (by omega) (by omega)] at this
  exact this
theorem ZjD(r0 r1 r2 r3 f:Int)(pb:Option Addr)(pn pc:Nat)(sb:Option Addr)(sn sc:Nat)(u:Int)(P SH:List Int)(w:World)(hPl:P.length=pn)(hSl:SH.length=sn)(hf:0≤f∧f<65536)(hu:0≤u∧u<256)
 (hPu:∀x∈P,0≤x∧x<65536)(hSu:∀x∈SH,0≤x∧x<65536)(hM:Meas w)(hmo:Most w)(hd:Deb w)(hP:RawU w pb P)(hS:RawU w sb SH):
 Calls prog 14 #[.agg #[.int .i64 r0,.int .i64 r1,.int .i64 r2,.int .i64 r3],.int .u16 f,.slice pb pn pc,.slice sb sn sc,.int .u8 u] w fun e w'=>e= .returned (.bool true):=by
 have hsh:∀W,Ext w W→Calls prog 22 #[] W fun e w'=>e= .returned (.bool true)∧Ext W w':=fun W (hW:Ext w W)=>Zce W (hM.ext hW) (hmo.ext hW) (hd.ext hW)
 have hck:=fun W (_:Ext w W)=>ZfQ r0 r1 r2 r3 none 0 0 [] W rfl (fun i s hs=>by simp at hs)
 by_cases hbad:ZC r0 r1 r2 r3 []≠0∨24<sn
 ·exact ZjL r0 r1 r2 r3 f u _ pb pn pc sb sn sc w hbad hck hsh
 ·have hr:ZC r0 r1 r2 r3 []=0:=Classical.byContradiction fun h=>hbad (.inl h)
  rw[hr] at hck
  have hok:=Zav hr
  have hD:Int.tmod u 91=(((u % 91).toNat:Nat):Int):=by rw[Int.tmod_eq_emod_of_nonneg hu.1,Int.toNat_of_nonneg (by omega)]
  refine ZjS r0 r1 r2 r3 f u pb pn pc sb sn sc (grw r0 r1 f P) (ZjN r0 r1 f P 91) SH w (by omega) hu (fun d hd=> ?_) (fun d hd=>ZjH r0 r1 f P (by omega)) hSl hSu hS hck (fun W hW=> ?_) (u % 91).toNat (by omega) hD (fun T q hT hq hs=>ZjX hmo hd hr (by omega) T q hT hq hs) hsh
  ·have:=ZjJ hok.h0 hok.h1.1 hok.h1.2 f P d
   omega
  ·refine(ZjQ r0 r1 r2 r3 f pb pn pc P W hok.h0 hok.h1.1 hok.h1.2 hf hPl hPu (hP.ext hW)).mono ?_
   rintro e w' ⟨v,rfl,hv,hE⟩
   have hlt:=fun k hk=>(hv.lt k hk).1
   obtain⟨bl,cl,rfl,hI,_⟩:=hv.rawI
   exact⟨bl,cl,by rw[ZjG],hI,fun b o e=>hlt b (by rw[e];rfl),hE⟩
end Go.Proofs.Tryq
section
set_option maxRecDepth 100000
namespace Go.Proofs.YtedkbdkbbnemlaaGreatDoor
open Go
namespace JarrowReal
theorem k0:Rows.arrowRealRow.wf (OpenSpec.ofChange Rows.arrowRealSpec)=true:=by kernel_rfl
theorem k1:laidOutB Tryz.prog=true:=by kernel_rfl
theorem k2:mapsRowed Tryz.prog=true:=by kernel_rfl
theorem k3:Tryz.f14.params.all (Tryz.prog.readableRec ·)=true:=by kernel_rfl
theorem k4:namedTie Tryz.prog Rows.arrowRealRow.named Rows.arrowRealSpec.vars=true:=by kernel_rfl
theorem k5:(Rows.arrowRealRow.stops==[])=true:=by kernel_rfl
theorem k6:(Tryz.prog.stops==[])=true:=by kernel_rfl
theorem k7:(Rows.arrowRealRow.knobs==[])=true:=by kernel_rfl
theorem k8:(Tryz.prog.stopKnobs==[])=true:=by kernel_rfl
theorem k9:(Rows.arrowRealRow.inPlace==Tryz.prog.inPlace 14)=true:=by kernel_rfl
theorem k10:(Rows.arrowRealRow.unfollowed==Tryz.prog.unfollowed 14)=true:=by kernel_rfl
theorem k11:(Rows.arrowRealRow.recurses==Tryz.prog.recurses 14)=true:=by kernel_rfl
theorem k12:(Rows.arrowRealRow.named==Tryz.prog.varsNamed 14)=true:=by kernel_rfl
theorem k13:(Rows.arrowRealRow.maps==(Tryz.f14.params.toList++Rows.arrowRealSpec.plain.varTypes Tryz.prog).any (Tryz.prog.mapsRec ·))=true:=by kernel_rfl
theorem k14:(Rows.arrowRealRow.ifaces==(Tryz.f14.params.toList++Rows.arrowRealSpec.plain.varTypes Tryz.prog).any (Tryz.prog.ifacesRec ·))=true:=by kernel_rfl
theorem k15:(Rows.arrowRealRow.mapsOut==Tryz.prog.mapsAmong Tryz.f14.resultTypes.toList)=true:=by kernel_rfl
theorem k16:(Rows.arrowRealRow.loops==(Tryz.f14.params.toList++Rows.arrowRealSpec.plain.varTypes Tryz.prog).any (Tryz.prog.loopsFrom ·))=true:=by kernel_rfl
theorem k17:(Rows.arrowRealRow.wideKeys==(Tryz.f14.params.toList++Rows.arrowRealSpec.plain.varTypes Tryz.prog++Tryz.f14.resultTypes.toList).any (Tryz.prog.wideKeysFrom ·))=true:=by kernel_rfl
theorem k18:Rows.arrowRealSpec.vars.all (Tryz.prog.varReadable ·)=true:=by kernel_rfl
theorem k19:Tryz.f14.resultTypes.all (fun t=>Tryz.prog.readableRec t&&decide (t<Tryz.prog.types.size))=true:=by kernel_rfl
theorem k20:(Rows.arrowRealRow.ifacesOut==Tryz.f14.resultTypes.toList.any (Tryz.prog.ifacesRec ·))=true:=by kernel_rfl
theorem k21:(Rows.arrowRealRow.loopsOut==Tryz.f14.resultTypes.toList.any (Tryz.prog.loopsFrom ·))=true:=by kernel_rfl
theorem k22:(Rows.arrowRealRow.plainKeys==Tryz.prog.plainKeys)=true:=by kernel_rfl
theorem k23:Rows.arrowRealRow.shortTexts.isNone=true:=by kernel_rfl
theorem k24:Tryz.prog.stopsHeard=true:=by kernel_rfl
theorem k25:Tryz.prog.mayEnter=true:=by kernel_rfl
theorem k26:(Rows.arrowRealRow.lifted==Tryz.prog.liftsFinal)=true:=by kernel_rfl
theorem k27:(Tryz.prog.make==some Rows.arrowRealRow.make)=true:=by kernel_rfl
theorem k28:(Rows.arrowRealRow.kinds==(if Rows.arrowRealRow.domain.isEmpty then[] else Tryz.f14.params.toList.map fun t=>match Tryz.prog.underlying t with|some (.int k)=>some k|_=>none))=true:=by kernel_rfl
theorem k29:(Rows.arrowRealRow.pinned==Rows.arrowRealRow.pinnedBy)=true:=by kernel_rfl
theorem k30:(Rows.arrowRealRow.veiled==(Tryz.f14.params.toList++Rows.arrowRealSpec.plain.varTypes Tryz.prog++Tryz.f14.resultTypes.toList).any (Tryz.prog.veiledRec ·))=true:=by kernel_rfl
theorem k31:Rows.arrowRealRow.veiledFits Tryz.prog Tryz.f14.params.toList (Tryz.f14.params.toList++Rows.arrowRealSpec.plain.varTypes Tryz.prog++Tryz.f14.resultTypes.toList)=true:=by kernel_rfl
theorem ZI{a b:Bool}(ha:a=true)(hb:b=true):(a&&b)=true:=by rw[ha,hb];rfl
theorem facts:joinedFacts Tryz.prog 14 Tryz.f14 Rows.arrowRealSpec Rows.arrowRealRow=true:=(ZI (ZI (ZI (ZI (ZI (ZI (ZI (ZI (ZI (ZI (ZI (ZI (ZI (ZI (ZI (ZI (ZI (ZI (ZI (ZI (ZI (ZI (ZI (ZI (ZI (ZI (ZI (ZI (ZI (ZI (ZI k0 k1) k2) k3) k4) k5) k6) k7) k8) k9) k10) k11) k12) k13) k14) k15) k16) k17) k18) k19) k20) k21) k22) k23) k24) k25) k26) k27) k28) k29) k30) k31)
end JarrowReal
end Go.Proofs.YtedkbdkbbnemlaaGreatDoor
end
