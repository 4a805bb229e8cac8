import Derived.Test.YtedkbdkbbnemlaaGreatDoorNk27
import Derived.ArgAppend
set_option linter.all false
namespace Go.Proofs.Tryq
set_option maxRecDepth 100000
set_option maxHeartbeats 4000000
open Go Go.Nk Go.RowKit
theorem Zg5(a b c d:Int)(w:World):Calls prog 46 #[.agg #[.int .i64 a,.int .i64 b],.agg #[.int .i64 c,.int .i64 d]] w fun e w'=>e= .returned (.agg #[.int .i64 (max a c),.int .i64 (min b d)])/\Ext w w':=by
 go_enter func46,ntmps46;go_wp2
 all_goals
  refine bodyPost_ret (v:= .agg #[.int .i64 (max a c),.int .i64 (min b d)]) ((Z07 rfl _ _ _).trans ?_) rfl ⟨rfl,(((Ext.rfl' w).alloc _).alloc _).alloc _⟩;simp[go_sem];omega
theorem ZfZ(r0 r1 r2 r3:Int)(s:Rs)(w:World):Calls prog 120 #[.agg #[.int .i64 r0,.int .i64 r1,.int .i64 r2,.int .i64 r3],.agg #[.int .i64 s.a,.int .i64 s.m,.int .i64 s.M,.int .i64 s.wi,.int .i64 s.li]] w fun e w'=>e= .returned (.agg #[.int .i64 (Z68 r2 r3 s).1,.int .i64 (Z68 r2 r3 s).2])/\Ext w w':=by
 go_enter func120,ntmps120;go_wp2;refine bodyPost_ret (v:= .agg #[.int .i64 (Z68 r2 r3 s).1,.int .i64 (Z68 r2 r3 s).2]) ((Z07 rfl _ _ _).trans ?_) rfl ⟨rfl,(((Ext.rfl' w).alloc _).alloc _).alloc _⟩;simp[go_sem,Z68,lo,hi]
theorem ZfX(r0 r1 r2 r3 d:Int)(s:Rs)(w:World):Calls prog 147 #[.agg #[.int .i64 r0,.int .i64 r1,.int .i64 r2,.int .i64 r3],.agg #[.int .i64 s.a,.int .i64 s.m,.int .i64 s.M,.int .i64 s.wi,.int .i64 s.li],.int .i64 d] w fun e w'=>e= .returned (.agg #[.int .i64 (Zdx r0 r1 r2 r3 s d).1,.int .i64 (Zdx r0 r1 r2 r3 s d).2])/\Ext w w':=by
 have hw:=fun W=>ZfZ r0 r1 r2 r3 s W
 have Bj:=(((Ext.rfl' w).alloc (.cells #[.int .i64 r0,.int .i64 r1,.int .i64 r2,.int .i64 r3] 67)).alloc (.cells #[.int .i64 s.a,.int .i64 s.m,.int .i64 s.M,.int .i64 s.wi,.int .i64 s.li] 80)).alloc (.cells #[.int .i64 0,.int .i64 0] 48);have b0:(((w.alloc (.cells #[.int .i64 r0,.int .i64 r1,.int .i64 r2,.int .i64 r3] 67)).alloc (.cells #[.int .i64 s.a,.int .i64 s.m,.int .i64 s.M,.int .i64 s.wi,.int .i64 s.li] 80)).alloc (.cells #[.int .i64 0,.int .i64 0] 48)).heap[w.heap.size]? =some (.cells #[.int .i64 r0,.int .i64 r1,.int .i64 r2,.int .i64 r3] 67):=by
  simp only[Z3,Z2];rw[if_neg (by omega),if_neg (by omega),if_pos trivial]
 have b1:(((w.alloc (.cells #[.int .i64 r0,.int .i64 r1,.int .i64 r2,.int .i64 r3] 67)).alloc (.cells #[.int .i64 s.a,.int .i64 s.m,.int .i64 s.M,.int .i64 s.wi,.int .i64 s.li] 80)).alloc (.cells #[.int .i64 0,.int .i64 0] 48)).heap[w.heap.size+1]? =some (.cells #[.int .i64 s.a,.int .i64 s.m,.int .i64 s.M,.int .i64 s.wi,.int .i64 s.li] 80):=by
  simp only[Z3,Z2];rw[if_neg (by omega),if_pos trivial]
 have b2:(((w.alloc (.cells #[.int .i64 r0,.int .i64 r1,.int .i64 r2,.int .i64 r3] 67)).alloc (.cells #[.int .i64 s.a,.int .i64 s.m,.int .i64 s.M,.int .i64 s.wi,.int .i64 s.li] 80)).alloc (.cells #[.int .i64 0,.int .i64 0] 48)).heap[w.heap.size+1+1]? =some (.cells #[.int .i64 0,.int .i64 0] 48):=by
  simp only[Z3,Z2];rw[if_pos trivial]
 have hz:Hid (Zdx r0 r1 r2 r3 s d=if s.a<=d then(wrap64 ((Z68 r2 r3 s).1+wrap64 (r0*wrap64 (d - s.a))),wrap64 ((Z68 r2 r3 s).2+wrap64 (r1*wrap64 (d - s.a))))
  else(wrap64 ((Z68 r2 r3 s).1 - wrap64 (r1*wrap64 (s.a - d))),wrap64 ((Z68 r2 r3 s).2 - wrap64 (r0*wrap64 (s.a - d))))):=rfl
 generalize Z68 r2 r3 s=x at hw hz;obtain⟨xa,xb⟩:=x;generalize Zdx r0 r1 r2 r3 s d=F at hz⊢;go_enter func147,ntmps147
 go_wp2_with (first
  |(go_at_call 120;refine(hw _).mono ?_;rintro e w2 ⟨rfl,A7⟩
    have Ai:=Bj.trans A7;replace b0:=A7.get b0;replace b1:=A7.get b1;replace b2:=A7.get b2;have l0:=Z5 b0;have l1:=Z5 b1;have l2:=Z5 b2;have p0:=Z0 b0 0;have p1:=Z0 b0 1;have p2:=Z0 b0 2;have p3:=Z0 b0 3;have q0:=Z0 b1 0;have z:=Zc b2;have z0:=z.1;have z1:=z.2.1;have z2:=z.2.2.1;have z3:=z.2.2.2;simp only[List.getElem?_toArray,List.getElem?_cons_zero,List.getElem?_cons_succ] at p0 p1 p2 p3 q0;clear z Bj A7 hw))
 all_goals
  have hF:=hz.out
  first|rw[if_pos (by omega)] at hF|rw[if_neg (by omega)] at hF
  subst hF;have h2:w.heap.size<=w.heap.size+1+1:=by omega
  refine bodyPost_ret (v:= .agg #[.int .i64 _,.int .i64 _]) ((Z07 rfl _ _ _).trans ?_) rfl ⟨rfl,((Ai.setCell _ _ h2).setCell _ _ h2).alloc _⟩;have hq:=fun u v o=>((Ext.rfl' ((w2.setCell ⟨w.heap.size+1+1,0,none⟩ u).setCell ⟨w.heap.size+1+1,1,none⟩ v)).alloc o).cellS (Zc (set_pair b2 u v)).1
  have Uu:=fun u v o=>((Ext.rfl' ((w2.setCell ⟨w.heap.size+1+1,0,none⟩ u).setCell ⟨w.heap.size+1+1,1,none⟩ v)).alloc o).cellS (Zc (set_pair b2 u v)).2.1
  simp[go_sem,hq,Uu]
theorem Zg9(n:Nat)(w:World)(hn:n<=1000):Calls prog 44 #[.int .i64 n] w fun e w'=>∃x,e= .returned x/\OwnI w.heap.size w' x (upL n)/\Ext w w':=by
 obtain⟨N,hN⟩:∃N,N=w.heap.size:=⟨_,rfl⟩;rw[<-hN];go_enter func44,ntmps44;go_wp2;go_loopw [3,4] (fun v3 v4 wr=>∃i:Nat,i<=n/\v4= .int .i64 i/\OwnI N wr v3 (upL i)/\Ext w wr) (fun _ v4 _=>n - (intOf v4).toNat)
 case atStart=>exact⟨0,Nat.zero_le _,rfl,World.ownsRow_nil _ _ _ _,Ext.rfl' w⟩
 case round=>
  rename_i v3 _;obtain⟨i,hi,rfl,Ae,hE⟩:=hrel;by_cases h0:i=n
  ·subst h0;go_wp2;go_ret;exact⟨_,rfl,Ae,hE⟩
  ·have A3:i<n:=by omega
   have Ce:(i:Int)<(n:Int):=by omega
   have hs:=hE.size;have H3:Hid (upL (i+1)=upL i++[(i:Int)]):=by show _=_;simp[upL,List.range_succ]
   obtain⟨l,hl⟩:∃l,l=upL i:=⟨_,rfl⟩;have O1:l.length=i:=by rw[hl];simp[upL]
   rw[<-hl] at Ae H3;clear hl
   go_wp2_with (
    at_builtin
    refine wpList_append_own _ rfl _ _ _ rfl N 3 Tryz.t3 (.int .i64 0) 1 8 u27 i3 t3z t3s t3b rfl (by omega) _ _ _ rfl (Ae.alloc _) ⟨wr.heap.size,0,none⟩ 1 1 [.int .i64 i] rfl rfl (Z1N _ _ _) (by intro u hu;simp at hu;subst hu;rfl) (by(try simp[maxLen]);omega) (by(try simp);omega) (by(try simp only[Z2]);omega) ?_;intro v' w3 Ao Ac _;have Ai:Ext w w3:=(hE.alloc _).grown Ac (fun k hk=>by have:=(Ae.lt k hk).1;omega))
   go_roundw
   case rel=>exact⟨i+1,by omega,by push_cast;rfl,by rw[H3.out];simpa[OwnI] using Ao,Ai⟩
   case measure=>simp[intOf];omega
theorem Zg0{r0 r1 r2 r3:Int}{S:List Rs}{d:Int}{t:List Int}{j:Int}(h:t≠[]):Z57 r0 r1 r2 r3 S d (t++[j])=ZaA (Z57 r0 r1 r2 r3 S d t) (fromS r0 r1 r2 r3 S d j):=by
 cases t with
 |nil=>exact absurd rfl h
 |cons i t=>rw[List.cons_append,Z57,Z57,List.foldl_append];rfl
theorem Zg1(r0 r1 r2 r3:Int)(base:Option Addr)(n cap:Nat)(S:List Rs)(bl:Option Addr)(k cl:Nat)(l:List Int)(d:Int)(w:World)(A1:S.length=n)(hn:n<=20)(hk:l.length=k)(Oi:k<=20)(Pt:0<k)(An:∀j∈l,0<=j/\j<(n:Int))(hS:RawS w base S)(hl:RawI w bl l):
 Calls prog 102 #[.agg #[.int .i64 r0,.int .i64 r1,.int .i64 r2,.int .i64 r3,.slice base n cap],.slice bl k cl,.int .i64 d] w fun e w'=>e= .returned (.agg #[.int .i64 (Z57 r0 r1 r2 r3 S d l).1,.int .i64 (Z57 r0 r1 r2 r3 S d l).2])/\Ext w w':=by
 obtain⟨j,hj⟩:∃j,l[0]? =some j:=⟨_,List.getElem?_eq_getElem (by omega)⟩;have Hj:=An j (List.mem_of_getElem? hj);obtain⟨J,rfl⟩:=Int.eq_ofNat_of_zero_le Hj.1;have Y0:J<n:=by omega
 have Pm:(J:Int)<(n:Int):=by omega
 obtain⟨s,hs⟩:∃s,S[J]? =some s:=⟨_,List.getElem?_eq_getElem (by omega)⟩;obtain⟨B0,O0,rfl,hB0,Bf⟩:=hl 0 _ hj;obtain⟨BS,OS,rfl,hBS,sh⟩:=hS J s hs;have HF:Hid (Z57 r0 r1 r2 r3 S d (l.take 1)=Zdx r0 r1 r2 r3 s d):=by
  show _=_;cases l with
  |nil=>simp at hj
  |cons x t=>
   simp at hj;subst hj;simp[Z57,fromS,hs]
 have Ih:=fun W=>ZfX r0 r1 r2 r3 d s W
 obtain⟨⟨fa,fb⟩,HF0⟩:∃v,Zdx r0 r1 r2 r3 s d=v:=⟨_,rfl⟩;rw[HF0] at Ih;have H1:Hid (Z57 r0 r1 r2 r3 S d (l.take 1)=(fa,fb)):=HF.out.trans HF0;replace A1:Hid (S.length=n):=A1;replace hk:Hid (l.length=k):=hk;replace An:Hid (∀j∈l,0<=j/\j<(n:Int)):=An;have Di:Hid (RawS w (some ⟨BS,OS,none⟩) S):=hS;have Cw:Hid (RawI w (some ⟨B0,O0,none⟩) l):=hl;clear hj hs HF0 hS hl Hj;have Af:=((Ext.rfl' w).alloc (.cells #[.int .i64 r0,.int .i64 r1,.int .i64 r2,.int .i64 r3,.slice (some ⟨BS,OS,none⟩) n cap] 70)).alloc (.cells #[.int .i64 0,.int .i64 0] 48);have hb:((w.alloc (.cells #[.int .i64 r0,.int .i64 r1,.int .i64 r2,.int .i64 r3,.slice (some ⟨BS,OS,none⟩) n cap] 70)).alloc (.cells #[.int .i64 0,.int .i64 0] 48)).heap[w.heap.size]? =some (.cells #[.int .i64 r0,.int .i64 r1,.int .i64 r2,.int .i64 r3,.slice (some ⟨BS,OS,none⟩) n cap] 70):=by
  simp only[Z3,Z2];rw[if_neg (by omega),if_pos trivial]
 have hz:((w.alloc (.cells #[.int .i64 r0,.int .i64 r1,.int .i64 r2,.int .i64 r3,.slice (some ⟨BS,OS,none⟩) n cap] 70)).alloc (.cells #[.int .i64 0,.int .i64 0] 48)).heap[w.heap.size+1]? =some (.cells #[.int .i64 0,.int .i64 0] 48):=by
  simp only[Z3,Z2];rw[if_pos trivial]
 go_enter func102,ntmps102;go_wp2_with fail;generalize World.alloc _ _=w1 at Af hb hz⊢;replace Bf:w1.cell? ⟨B0,O0+0,none⟩=some (.int .i64 J):=Af.cellS Bf;rw[Nat.add_zero] at Bf;have sh:ShotAt w1 BS (OS+J*5) s.a s.m s.M s.wi s.li:=⟨Af.cellS sh.c0,Af.cellS sh.c1,Af.cellS sh.c2,Af.cellS sh.c3,Af.cellS sh.c4⟩;have q0:=Z0 hb 0;have q1:=Z0 hb 1;have q2:=Z0 hb 2;have q3:=Z0 hb 3;have q4:=Z0 hb 4;simp only[List.getElem?_toArray,List.getElem?_cons_zero,List.getElem?_cons_succ] at q0 q1 q2 q3 q4;have g0:=Zet q0;have g1:=Zet q1;have g2:=Zet q2;have g3:=Zet q3;have g4:=Zet q4;have k0:=Zet sh.c0;have k1:=Zet sh.c1;have k2:=Zet sh.c2;have k3:=Zet sh.c3;have k4:=Zet sh.c4;have kc:=Zet Bf;refine Zfn 12 11 7 [0,1,2,3,4,5,6,7,8,9,10] (.cells #[.int .i64 0,.int .i64 0] 48) (by kernel_rfl) rfl (by kernel_rfl) rfl rfl (fun a W=>by simp[go_sem,execOp,Act.eval]) ?_;refine Zfj [0,1,2,3,4,5,6,7,8,9] (by kernel_rfl) rfl rfl (by kernel_rfl) ?_;simp only[ZeD,List.getElem?_cons_succ,List.getElem?_cons_zero,List.cons_append,List.nil_append]
 repeat (go_big_quiet_step (fail))
 refine wpQuiet_nil ?_;refine Zfr 10 (f:=147) (args:= #[.agg #[.int .i64 r0,.int .i64 r1,.int .i64 r2,.int .i64 r3],.agg #[.int .i64 s.a,.int .i64 s.m,.int .i64 s.M,.int .i64 s.wi,.int .i64 s.li],.int .i64 d]) (v:= .agg #[.int .i64 fa,.int .i64 fb]) (by kernel_rfl) rfl rfl rfl (by kernel_rfl) rfl (fun W=>by simp[go_sem,execOp,Act.eval]) (fun W _=>Ih W) ?_;go_simp;refine Zfq (by kernel_rfl) (fun W hW b hA C2 Ad=> ?_);obtain⟨bx,rfl⟩:∃bx,bx=b:=⟨_,rfl⟩;have Am:=hW;clear hW;go_simp;refine Zfp 1 (by kernel_rfl) (fun W hW=> ?_);simp only[List.drop_succ_cons,List.drop_zero];replace Ad:=hW.get Ad;have Az:=(Af.trans Am).trans hW;have C6:w.heap.size<=bx:=by have h1:=hA;have h2:=Af.size;omega
 have Kq:=Z5 hb;have Hz:=Z5 hz;have hP:=set_pair Ad (.int .i64 fa) (.int .i64 fb);have hC:=Zfl (i:=0) (j:=1) (u:= .int .i64 fa) (v:= .int .i64 fb) (show w.heap.size≠bx by omega) (hW.get (Am.get hb));have hZ:=Zfl (i:=0) (j:=1) (u:= .int .i64 fa) (v:= .int .i64 fb) (show w.heap.size+1≠bx by omega) (hW.get (Am.get hz));have I9:=(Az.setCell ⟨bx,0,none⟩ (.int .i64 fa) C6).setCell ⟨bx,1,none⟩ (.int .i64 fb) C6;have Oj:w.heap.size+1≠bx:=by omega
 have Y1:w.heap.size≠bx:=by omega
 have g:=Zc Ad;have g0:=g.1;have g1:=g.2.1;have g2:=g.2.2.1;have g3:=g.2.2.2;clear g Az Af Am hW hA C2 hb hz Kq Hz q0 q1 q2 q3 q4 k0 k1 k2 k3 k4 kc sh Bf;go_wp2_with fail;generalize (W.setCell ⟨bx,0,none⟩ (.int .i64 fa)).setCell ⟨bx,1,none⟩ (.int .i64 fb)=Y at*;clear g0 g1 g2 g3 Ad;refine Zfm ?_;go_wp2_with fail;go_loopw [8] (fun v wr=>∃i:Nat,1<=i/\i<=k/\v= .int .i64 i/\Ext w wr/\wr.heap[w.heap.size]? =some (.cells #[.int .i64 r0,.int .i64 r1,.int .i64 r2,.int .i64 r3,.slice (some ⟨BS,OS,none⟩) n cap] 70)/\wr.heap[w.heap.size+1]? =some (.cells #[.int .i64 0,.int .i64 0] 48)/\∃pa pb,wr.heap[bx]? =some (.cells #[.int .i64 pa,.int .i64 pb] 48)/\Hid (Z57 r0 r1 r2 r3 S d (l.take i)=(pa,pb))) (fun v _=>k - (intOf v).toNat)
 case atStart=>exact⟨1,Nat.le_refl _,by omega,rfl,I9,hC,hZ,fa,fb,hP,H1⟩
 case round=>
  obtain⟨i,Na,hi,rfl,hE,hb,hz,pa,pb,hp,HP⟩:=hrel;clear I9 hC hZ hP H1 HF;have Oj:w.heap.size+1≠bx:=Oj;by_cases J3:i=k
  ·subst J3;have HR:Hid (Z57 r0 r1 r2 r3 S d l=(pa,pb)):=by show _=_;rw[<-HP.out,List.take_of_length_le (by have:=hk.out;omega)]
   have y:=Zc hp;have y0:=y.1;have y1:=y.2.1;have z:=Zc hz;have z0:=z.1;have z1:=z.2.1;have z2:=z.2.2.1;have z3:=z.2.2.2;clear y z HP An Di Cw;go_wp2;have h2:w.heap.size<=w.heap.size+1:=by omega
   refine bodyPost_ret (v:= .agg #[.int .i64 (Z57 r0 r1 r2 r3 S d l).1,.int .i64 (Z57 r0 r1 r2 r3 S d l).2]) ((Z07 rfl _ _ _).trans ?_) rfl ⟨rfl,(hE.setCell _ _ h2).setCell _ _ h2⟩;have hq:=Zc (set_pair hz (.int .i64 pa) (.int .i64 pb));rw[HR.out];simp[go_sem,hq.1,hq.2.1]
  ·have A3:i<k:=by omega
   have Ce:(i:Int)<(k:Int):=by omega
   obtain⟨j,hj⟩:∃j,l[i]? =some j:=⟨_,List.getElem?_eq_getElem (by have:=hk.out;omega)⟩;have Hj:=An.out j (List.mem_of_getElem? hj);obtain⟨J,rfl⟩:=Int.eq_ofNat_of_zero_le Hj.1;have Y0:J<n:=by omega
   have Pm:(J:Int)<(n:Int):=by omega
   obtain⟨s,hs⟩:∃s,S[J]? =some s:=⟨_,List.getElem?_eq_getElem (by have:=A1.out;omega)⟩;have HN:Hid (Z57 r0 r1 r2 r3 S d (l.take (i+1))=ZaA (pa,pb) (Zdx r0 r1 r2 r3 s d)):=by
    show _=_;rw[Z0G hj,Zg0 (by rw[ne_eq,List.take_eq_nil_iff];rintro(h|h);omega;subst h;simp at hj),HP.out,fromS,Int.toNat_natCast,hs]
   obtain⟨bb,ob,Y3,Av,hcj⟩:=Cw.out i _ hj;obtain⟨bc,oc,Y4,A9,sh⟩:=Di.out J s hs;obtain⟨rfl,rfl⟩:B0=bb/\O0=ob:=by simpa using Y3
   obtain⟨rfl,rfl⟩:BS=bc/\OS=oc:=by simpa using Y4
   have Ih:=fun W=>ZfX r0 r1 r2 r3 d s W
   obtain⟨⟨fa,fb⟩,HF0⟩:∃v,Zdx r0 r1 r2 r3 s d=v:=⟨_,rfl⟩;rw[HF0] at HN Ih;clear HF0 hj hs HP;have hc:=hE.cellS hcj;have s0:=hE.cellS sh.c0;have s1:=hE.cellS sh.c1;have s2:=hE.cellS sh.c2;have s3:=hE.cellS sh.c3;have s4:=hE.cellS sh.c4;have q0:=Z0 hb 0;have q1:=Z0 hb 1;have q2:=Z0 hb 2;have q3:=Z0 hb 3;have q4:=Z0 hb 4;simp only[List.getElem?_toArray,List.getElem?_cons_zero,List.getElem?_cons_succ] at q0 q1 q2 q3 q4;have y:=Zc hp;have y0:=y.1;have y1:=y.2.1;have g0:=Zet q0;have g1:=Zet q1;have g2:=Zet q2;have g3:=Zet q3;have g4:=Zet q4;have kc:=Zet hc;have k0:=Zet s0;have k1:=Zet s1;have k2:=Zet s2;have k3:=Zet s3;have k4:=Zet s4;have ky0:=Zet y0;have ky1:=Zet y1;clear y sh hcj;go_wp2_with fail;refine ZeG 14 (by kernel_rfl) ?_;refine ZeB [0,1,2,3,4,5,6,7,8,9,10,11] (by kernel_rfl) (by kernel_rfl) ?_;simp only[ZeD,List.getElem?_cons_succ,List.getElem?_cons_zero,List.cons_append,List.nil_append]
   repeat (go_big_quiet_step (fail))
   refine wpQuiet_nil ?_;refine ZeX 12 (f:=147) (args:= #[.agg #[.int .i64 r0,.int .i64 r1,.int .i64 r2,.int .i64 r3],.agg #[.int .i64 s.a,.int .i64 s.m,.int .i64 s.M,.int .i64 s.wi,.int .i64 s.li],.int .i64 d]) (v:= .agg #[.int .i64 fa,.int .i64 fb]) (by kernel_rfl) rfl (by kernel_rfl) rfl (fun W=>by simp[go_sem,execOp,Act.eval]) (fun W _=>Ih W) ?_;go_simp;refine ZeX 13 (f:=46) (args:= #[.agg #[.int .i64 pa,.int .i64 pb],.agg #[.int .i64 fa,.int .i64 fb]]) (v:= .agg #[.int .i64 (max pa fa),.int .i64 (min pb fb)]) (by kernel_rfl) rfl (by kernel_rfl) rfl (fun W=>by simp[go_sem,execOp,Act.eval]) (fun W _=>Zg5 pa pb fa fb W) ?_;go_simp;refine Zfp 1 (by kernel_rfl) (fun W hW=> ?_);simp only[List.drop_succ_cons,List.drop_zero];have Ai:=hE.trans hW;replace hb:=hW.get hb;replace hz:=hW.get hz;replace hp:=hW.get hp;have Kq:=Z5 hb;have hP:=set_pair hp (.int .i64 (max pa fa)) (.int .i64 (min pb fb));have hC:=Zfl (i:=0) (j:=1) (u:= .int .i64 (max pa fa)) (v:= .int .i64 (min pb fb)) Y1 hb;have hZ:=Zfl (i:=0) (j:=1) (u:= .int .i64 (max pa fa)) (v:= .int .i64 (min pb fb)) Oj hz;have I9:=(Ai.setCell ⟨bx,0,none⟩ (.int .i64 (max pa fa)) C6).setCell ⟨bx,1,none⟩ (.int .i64 (min pb fb)) C6;have g:=Zc hp;have p0:=g.1;have p1:=g.2.1;have p2:=g.2.2.1;have p3:=g.2.2.2
   clear g q0 q1 q2 q3 q4 g0 g1 g2 g3 g4 kc k0 k1 k2 k3 k4 ky0 ky1 s0 s1 s2 s3 s4 hc y0 y1 Ai hE hW hb hz;go_wp2_with fail;refine Zfm ?_;go_wp2_with fail;exact⟨⟨i+1,by omega,by omega,by push_cast;rfl,I9,hC,hZ,_,_,hP,HN⟩,by simp[intOf];omega⟩
end Go.Proofs.Tryq
namespace Go.Proofs.Tryq
open Go Go.Nk Go.RowKit
set_option linter.all false
def ZiA(s:Rs):List Value:=[.int .i64 s.a,.int .i64 s.m,.int .i64 s.M,.int .i64 s.wi,.int .i64 s.li]
def Ziv(S:List Rs):List Value:=S.flatMap ZiA
theorem shotsV_len:∀S:List Rs,(Ziv S).length=S.length*5
 |[]=>rfl
 |s::S=>by
  have:=shotsV_len S;simp only[Ziv,List.flatMap_cons,List.length_append,List.length_cons] at*;rw[this];simp[ZiA];omega
theorem shotsV_at:∀(S:List Rs)(i:Nat)(s:Rs),S[i]? =some s->∀c,c<5->(Ziv S)[i*5+c]? =(ZiA s)[c]?
 |[],i,s,h,c,hc=>by simp at h
 |x::S,0,s,h,c,hc=>by
  obtain rfl:x=s:=by simpa using h
  simp only[Ziv,List.flatMap_cons];rw[List.getElem?_append_left (by simp[ZiA];omega)];simp
 |x::S,i+1,s,h,c,hc=>by
  have ih:=shotsV_at S i s (by simpa using h) c hc;simp only[Ziv,List.flatMap_cons] at*;rw[List.getElem?_append_right (by simp[ZiA];omega),<-ih];congr 1;simp[ZiA];omega
theorem ZiH(S T:List Rs):Ziv (S++T)=Ziv S++Ziv T:=by simp[Ziv]
theorem ZiM(S:List Rs):∀u∈Ziv S,u.oneCell'=true:=by
 intro u hu;obtain⟨s,_,hs⟩:=List.mem_flatMap.1 hu;simp only[ZiA,List.mem_cons,List.not_mem_nil,or_false] at hs;rcases hs with rfl|rfl|rfl|rfl|rfl<;>rfl
theorem Zh7(b o j:Nat):(⟨b,o,none⟩:Addr).add j=⟨b,o+j,none⟩:=by unfold Addr.add;split<;>simp_all
theorem ZiI{w:World}{B O:Nat}{S:List Rs}(hB:B<w.heap.size)(h:∀j u,(Ziv S)[j]? =some u->w.cell? ⟨B,O+j,none⟩=some u):RawS w (some ⟨B,O,none⟩) S:=by
 intro i s hs;have k:=fun c (hc:c<5) u (hu:(ZiA s)[c]? =some u)=>h (i*5+c) u ((shotsV_at S i s hs c hc).trans hu)
 refine⟨B,O,rfl,hB,?_⟩;have k0:=k 0 (by omega) _ rfl;have k1:=k 1 (by omega) _ rfl;have k2:=k 2 (by omega) _ rfl;have k3:=k 3 (by omega) _ rfl;have k4:=k 4 (by omega) _ rfl;exact⟨k0,k1,k2,k3,k4⟩
end Go.Proofs.Tryq
namespace Go.Proofs.Tryq
set_option maxRecDepth 100000
set_option maxHeartbeats 2000000
open Go Go.Nk Go.RowKit
@[go_sem] theorem eq46 (a b c d a' b' c' d':Int) (w:World):(Op.equalIn 10000 46 (.agg #[.int .i64 a,.int .i64 b,.int .i64 c,.int .i64 d]) (.agg #[.int .i64 a',.int .i64 b',.int .i64 c',.int .i64 d'])).run prog w= .ok (a==a'&&b==b'&&c==c'&&d==d') w:=by
  have u3:prog.underlying 3=some (.int .i64):=(underlying_eq 3).trans Tryz.underlying3;have u44:prog.underlying 44=some (.int .i64):=(underlying_eq 44).trans Tryz.underlying44;have u30:prog.underlying 30=some (.int .i64):=(underlying_eq 30).trans Tryz.underlying30;have a3:=Tryz.isAgg3;have z3:=Tryz.sizeOf3;have hS:prog.underlying 46=some (.struct (prog.fieldsOf 46)):=by kernel_rfl
  have hp:prog.stoodInHeld 46=false:=by kernel_rfl
  rw[show(10000:Nat)=9999+1 from rfl,run_equalIn_agg w 9999 46 _ _ hS hp];simp only[Program.fieldsOf,underlying_eq,Tryz.underlying46];go_simp;by_cases h1:a=a'<;>by_cases h2:b=b'<;>by_cases h3:c=c'<;>by_cases h4:d=d'<;>simp[h1,h2,h3,h4]
@[go_sem] theorem guard46 (op:BinOp) (p q:Operand) (xs ys:Array Value) (w:World):(eqGuard op 46 p q (.agg xs) (.agg ys)).run prog w= .ok () w:=run_eqGuard_agg w op 46 p q xs ys (by kernel_rfl)
def apB(x y:Ap):Bool:=x.p==y.p&&x.q==y.q&&(x.k:Int)==(y.k:Int)&&x.s==y.s
def apsB:List Ap->List Ap->Bool
 |[],[]=>true
 |x::l,y::k=>apB x y&&apsB l k
 |_,_=>false
theorem Z67{l k:List Ap}{i:Nat}{x y:Ap}(hx:l[i]? =some x)(hy:k[i]? =some y):apsB (l.drop i) (k.drop i)=(apB x y&&apsB (l.drop (i+1)) (k.drop (i+1))):=by rw[Z0b hx,Z0b hy];rfl
theorem apsB_len:∀{l k:List Ap},l.length≠k.length->apsB l k=false
 |[],[],h=>absurd rfl h
 |[],_::_,_=>rfl
 |_::_,[],_=>rfl
 |x::l,y::k,h=>by rw[apsB,apsB_len (l:=l) (k:=k) (by simpa using h),Bool.and_false]
def RawAp(w:World)(base:Option Addr)(A:List Ap):Prop:=∀(i:Nat)(x:Ap),A[i]? =some x->∃b off,base=some ⟨b,off,none⟩/\b<w.heap.size/\(w.cell? ⟨b,off+i*4,none⟩=some (.int .i64 x.p)/\w.cell? ⟨b,off+i*4+1,none⟩=some (.int .i64 x.q)/\w.cell? ⟨b,off+i*4+2,none⟩=some (.int .i64 x.k)/\w.cell? ⟨b,off+i*4+3,none⟩=some (.int .i64 x.s))
theorem RawAp.ext{w w':World}{base:Option Addr}{A:List Ap}(h:RawAp w base A)(e:Ext w w'):RawAp w' base A:=by
 intro i x hi;obtain⟨b,off,h1,h2,h3,h4,h5,h6⟩:=h i x hi;exact⟨b,off,h1,e.lt h2,e.cellS h3,e.cellS h4,e.cellS h5,e.cellS h6⟩
theorem Z25(a1:Option Addr)(n1 c1:Nat)(l:List Ap)(a2:Option Addr)(n2 c2:Nat)(k:List Ap)(w:World)(h1:l.length=n1)(h2:k.length=n2)(hb:n1<=1000000/\n2<=1000000)(hl:RawAp w a1 l)(hk:RawAp w a2 k):
 Calls prog 29 #[.slice a1 n1 c1,.slice a2 n2 c2] w fun e w'=>e= .returned (.bool (apsB l k))/\Ext w w':=by
 by_cases hn:n1=n2
 ·have H:Hid (apsB l k=apsB (l.drop 0) (k.drop 0)):=rfl;subst hn;obtain⟨n,hn⟩:∃n,n=n1:=⟨_,rfl⟩;subst hn;go_enter func29,ntmps29;go_wp2;go_loopw [5] (fun v wr=>∃i:Nat,i<=n/\v= .int .i64 i/\Ext w wr/\Hid (apsB l k=apsB (l.drop i) (k.drop i))) (fun v _=>n - (intOf v).toNat)
  case atStart=>exact⟨0,Nat.zero_le _,rfl,Ext.rfl' w,H⟩
  case round=>
   obtain⟨i,hi,rfl,hE,hH⟩:=hrel;clear H;by_cases An:i=n
   ·subst An;have hz:apsB l k=true:=(by rw[hH.out,Z1Z h1,Z1Z h2];rfl);go_wp2;go_ret;exact⟨ZP (a:=true) hz.symm,hE⟩
   ·have A3:i<n:=(by omega);obtain⟨x,hx⟩:∃x,l[i]? =some x:=⟨_,List.getElem?_eq_getElem (by omega)⟩;obtain⟨y,hy⟩:∃y,k[i]? =some y:=⟨_,List.getElem?_eq_getElem (by omega)⟩;obtain⟨ba,oa,rfl,P3,Fm⟩:=(hl.ext hE) i x hx;obtain⟨bb,ob,rfl,Pj,hyb⟩:=(hk.ext hE) i y hy;have eqAp:(!(x.p==y.p&&x.q==y.q&&(x.k:Int)==(y.k:Int)&&x.s==y.s))= !apB x y:=rfl;go_wp2_with fail;have gz0:=Zet Fm.1;have gz1:=Zet Fm.2.1;have gz2:=Zet Fm.2.2.1;have gz3:=Zet Fm.2.2.2;have gz4:=Zet hyb.1;have gz5:=Zet hyb.2.1;have gz6:=Zet hyb.2.2.1;have gz7:=Zet hyb.2.2.2;refine ZeG 9 (by kernel_rfl) ?_;refine ZeB [0,1,2,3,4,5,6,7,8] (by kernel_rfl) (by kernel_rfl) ?_;simp only[ZeD,List.getElem?_cons_succ,List.getElem?_cons_zero,List.cons_append,List.nil_append]
    repeat (go_big_quiet_step (fail))
    refine wpQuiet_nil ?_;refine Zf6 (by kernel_rfl) (fun W hW=> ?_);have Az:=hW;clear gz0 gz1 gz2 gz3 gz4 gz5 gz6 gz7;have C4:=hE.trans Az;by_cases Cj:apB x y=true
    ·have hb:(!apB x y)=false:=(by simp[Cj]);have Fi:Hid (apsB l k=apsB (l.drop (i+1)) (k.drop (i+1))):=(by show _=_;rw[hH.out,Z67 hx hy,Cj,Bool.true_and]);rw[hb];clear hb;go_wp2;go_roundw
     case rel=>exact⟨i+1,by omega,by push_cast;rfl,C4,Fi⟩
     case measure=>simp[intOf];omega
    ·have hb:(!apB x y)=true:=(by simpa using Cj);have Fi:apsB l k=false:=(by rw[hH.out,Z67 hx hy,(by simpa using Cj:apB x y=false),Bool.false_and]);rw[hb];clear hb;go_wp2;go_ret;exact⟨ZP (a:=false) Fi.symm,C4⟩
 ·have hz:apsB l k=false:=apsB_len (by omega);have hnn:¬(n1:Int)=(n2:Int):=by omega
  go_enter func29,ntmps29;go_wp2;go_ret;exact⟨ZP (a:=false) hz.symm,Ext.rfl' w⟩
end Go.Proofs.Tryq
namespace Go.Proofs.Tryq
set_option maxRecDepth 100000
set_option maxHeartbeats 4000000
open Go Go.Nk Go.RowKit
theorem Z7J(w:World)(a:Addr)(v:Value):(w.setCell a v).heap.size=w.heap.size:=(Go.Conc.aside_setCell w a v).size
def exL:List Sf:=[⟨⟨#[97]⟩,400,405,700,700,250,252⟩,⟨⟨#[98]⟩,404,408,701,701,251,251⟩,⟨⟨#[99]⟩,398,402,700,701,249,250⟩,⟨⟨#[100]⟩,409,412,700,700,255,255⟩,⟨⟨#[101]⟩,402,402,702,702,252,254⟩,⟨⟨#[102]⟩,405,406,701,702,253,253⟩,⟨⟨#[103]⟩,450,450,700,700,250,250⟩]
def exC:Array Value:=(exL.flatMap fun x=>(sfC x).toList).toArray
theorem exC_eq:exC= #[.string ⟨#[97]⟩,.int .i64 400,.int .i64 405,.int .i64 700,.int .i64 700,.int .i64 250,.int .i64 252,.string ⟨#[98]⟩,.int .i64 404,.int .i64 408,.int .i64 701,.int .i64 701,.int .i64 251,.int .i64 251,.string ⟨#[99]⟩,.int .i64 398,.int .i64 402,.int .i64 700,.int .i64 701,.int .i64 249,.int .i64 250,.string ⟨#[100]⟩,.int .i64 409,.int .i64 412,.int .i64 700,.int .i64 700,.int .i64 255,.int .i64 255,.string ⟨#[101]⟩,.int .i64 402,.int .i64 402,.int .i64 702,.int .i64 702,.int .i64 252,.int .i64 254,.string ⟨#[102]⟩,.int .i64 405,.int .i64 406,.int .i64 701,.int .i64 702,.int .i64 253,.int .i64 253,.string ⟨#[103]⟩,.int .i64 450,.int .i64 450,.int .i64 700,.int .i64 700,.int .i64 250,.int .i64 250]:=by rfl
theorem Z6U(w:World):Calls prog 84 #[] w fun e w'=>∃B,e= .returned (.agg #[.int .i64 10,.int .i64 2,.int .i64 5,.int .i64 3,.slice (some ⟨B,0,none⟩) 7 7])/\w'.heap[B]? =some (.cells exC 51)/\Ext w w':=by
 have Cp:=Ext.rfl' (w.alloc (.cells #[.int .i64 0,.int .i64 0,.int .i64 0,.int .i64 0,.slice none 0 0] 26));have Cr:(w.alloc (.cells #[.int .i64 0,.int .i64 0,.int .i64 0,.int .i64 0,.slice none 0 0] 26)).heap[w.heap.size]? =some (.cells #[.int .i64 0,.int .i64 0,.int .i64 0,.int .i64 0,.slice none 0 0] 26):=by rw[Z3,if_pos rfl]
 go_enter func84,ntmps84
 go_wp2_with (
  go_at_call 34;refine(Z3P _ _ _).mono ?_;rintro e w2 ⟨rfl,A7⟩
  replace Cp:=Cp.trans A7;clear A7
  (try clear z0 z1 z2 z3 z4 y0 y1 y2 y3 y4 Hl)
  have Hl:=Z5 (Cp.get Cr);have z0:=Z8 (Cp.get Cr) 0;have z1:=Z8 (Cp.get Cr) 1;have z2:=Z8 (Cp.get Cr) 2;have z3:=Z8 (Cp.get Cr) 3;have z4:=Z8 (Cp.get Cr) 4;have y0:=Z0 (Cp.get Cr) 0;have y1:=Z0 (Cp.get Cr) 1;have y2:=Z0 (Cp.get Cr) 2;have y3:=Z0 (Cp.get Cr) 3;have y4:=Z0 (Cp.get Cr) 4;simp only[List.getElem?_toArray,List.getElem?_cons_zero,List.getElem?_cons_succ] at y0 y1 y2 y3 y4)
 have G5:Ext w w2:=((Ext.rfl' w).alloc _).trans Cp;have Bv:=(Zb (Zb (Zb (Zb (Zb (Cp.get Cr) (i:=0) (.int .i64 10)) (i:=1) (.int .i64 2)) (i:=2) (.int .i64 5)) (i:=3) (.int .i64 3)) (i:=4) (.slice (some ⟨w2.heap.size,0,none⟩) 7 7));have Bc:=(((((G5.setCell ⟨w.heap.size,0,none⟩ (.int .i64 10) (Nat.le_refl _)).setCell ⟨w.heap.size,1,none⟩ (.int .i64 2) (Nat.le_refl _)).setCell ⟨w.heap.size,2,none⟩ (.int .i64 5) (Nat.le_refl _)).setCell ⟨w.heap.size,3,none⟩ (.int .i64 3) (Nat.le_refl _)).setCell ⟨w.heap.size,4,none⟩ (.slice (some ⟨w2.heap.size,0,none⟩) 7 7) (Nat.le_refl _));have Ht:w2.heap.size=(((((w2.setCell ⟨w.heap.size,0,none⟩ (.int .i64 10)).setCell ⟨w.heap.size,1,none⟩ (.int .i64 2)).setCell ⟨w.heap.size,2,none⟩ (.int .i64 5)).setCell ⟨w.heap.size,3,none⟩ (.int .i64 3)).setCell ⟨w.heap.size,4,none⟩ (.slice (some ⟨w2.heap.size,0,none⟩) 7 7)).heap.size:=by simp only[Z7J]
 have Qr:w2.heap.size≠w.heap.size:=by omega
 generalize World.setCell _ _ _=w9 at Bv Bc Ht⊢;have Eb:=((Ext.rfl' w9).alloc (.cells exC 51)).get Bv;have s0:=Z0 Eb 0;have s1:=Z0 Eb 1;have s2:=Z0 Eb 2;have s3:=Z0 Eb 3;have s4:=Z0 Eb 4;simp at s0 s1 s2 s3 s4;rw[<-exC_eq];refine bodyPost_ret (v:= .agg #[.int .i64 10,.int .i64 2,.int .i64 5,.int .i64 3,.slice (some ⟨w2.heap.size,0,none⟩) 7 7]) ((Z07 rfl _ _ _).trans ?_) rfl ⟨w2.heap.size,rfl,by rw[Z3,if_pos Ht],Bc.alloc _⟩;simp[go_sem,s0,s1,s2,s3,s4]
def exS:List Rs:=[⟨10,30,32,0,0⟩,⟨20,55,60,0,0⟩,⟨30,96,99,1,1⟩]
def rsC(x:Rs):List Value:=[.int .i64 x.a,.int .i64 x.m,.int .i64 x.M,.int .i64 x.wi,.int .i64 x.li]
def exD:Array Value:=(exS.flatMap rsC).toArray
theorem exD_eq:exD= #[.int .i64 10,.int .i64 30,.int .i64 32,.int .i64 0,.int .i64 0,.int .i64 20,.int .i64 55,.int .i64 60,.int .i64 0,.int .i64 0,.int .i64 30,.int .i64 96,.int .i64 99,.int .i64 1,.int .i64 1]:=by rfl
theorem Zar(w:World):Calls prog 85 #[] w fun e w'=>∃B,e= .returned (.agg #[.int .i64 2,.int .i64 4,.int .i64 1,.int .i64 2,.slice (some ⟨B,0,none⟩) 3 3])/\w'.heap[B]? =some (.cells exD 80)/\Ext w w':=by
 have Cp:=Ext.rfl' (w.alloc (.cells #[.int .i64 0,.int .i64 0,.int .i64 0,.int .i64 0,.slice none 0 0] 70));have Cr:(w.alloc (.cells #[.int .i64 0,.int .i64 0,.int .i64 0,.int .i64 0,.slice none 0 0] 70)).heap[w.heap.size]? =some (.cells #[.int .i64 0,.int .i64 0,.int .i64 0,.int .i64 0,.slice none 0 0] 70):=by rw[Z3,if_pos rfl]
 go_enter func85,ntmps85
 go_wp2_with (
  go_at_call 34;refine(Z3P _ _ _).mono ?_;rintro e w2 ⟨rfl,A7⟩
  replace Cp:=Cp.trans A7;clear A7
  (try clear z0 z1 z2 z3 z4 y0 y1 y2 y3 y4 Hl)
  have Hl:=Z5 (Cp.get Cr);have z0:=Z8 (Cp.get Cr) 0;have z1:=Z8 (Cp.get Cr) 1;have z2:=Z8 (Cp.get Cr) 2;have z3:=Z8 (Cp.get Cr) 3;have z4:=Z8 (Cp.get Cr) 4;have y0:=Z0 (Cp.get Cr) 0;have y1:=Z0 (Cp.get Cr) 1;have y2:=Z0 (Cp.get Cr) 2;have y3:=Z0 (Cp.get Cr) 3;have y4:=Z0 (Cp.get Cr) 4;simp only[List.getElem?_toArray,List.getElem?_cons_zero,List.getElem?_cons_succ] at y0 y1 y2 y3 y4)
 have G5:Ext w w2:=((Ext.rfl' w).alloc _).trans Cp;have Bv:=(Zb (Zb (Zb (Zb (Zb (Cp.get Cr) (i:=0) (.int .i64 2)) (i:=1) (.int .i64 4)) (i:=2) (.int .i64 1)) (i:=3) (.int .i64 2)) (i:=4) (.slice (some ⟨w2.heap.size,0,none⟩) 3 3));have Bc:=(((((G5.setCell ⟨w.heap.size,0,none⟩ (.int .i64 2) (Nat.le_refl _)).setCell ⟨w.heap.size,1,none⟩ (.int .i64 4) (Nat.le_refl _)).setCell ⟨w.heap.size,2,none⟩ (.int .i64 1) (Nat.le_refl _)).setCell ⟨w.heap.size,3,none⟩ (.int .i64 2) (Nat.le_refl _)).setCell ⟨w.heap.size,4,none⟩ (.slice (some ⟨w2.heap.size,0,none⟩) 3 3) (Nat.le_refl _));have Ht:w2.heap.size=(((((w2.setCell ⟨w.heap.size,0,none⟩ (.int .i64 2)).setCell ⟨w.heap.size,1,none⟩ (.int .i64 4)).setCell ⟨w.heap.size,2,none⟩ (.int .i64 1)).setCell ⟨w.heap.size,3,none⟩ (.int .i64 2)).setCell ⟨w.heap.size,4,none⟩ (.slice (some ⟨w2.heap.size,0,none⟩) 3 3)).heap.size:=by simp only[Z7J]
 have Qr:w2.heap.size≠w.heap.size:=by omega
 generalize World.setCell _ _ _=w9 at Bv Bc Ht⊢;have Eb:=((Ext.rfl' w9).alloc (.cells exD 80)).get Bv;have s0:=Z0 Eb 0;have s1:=Z0 Eb 1;have s2:=Z0 Eb 2;have s3:=Z0 Eb 3;have s4:=Z0 Eb 4;simp at s0 s1 s2 s3 s4;rw[<-exD_eq];refine bodyPost_ret (v:= .agg #[.int .i64 2,.int .i64 4,.int .i64 1,.int .i64 2,.slice (some ⟨w2.heap.size,0,none⟩) 3 3]) ((Z07 rfl _ _ _).trans ?_) rfl ⟨w2.heap.size,rfl,by rw[Z3,if_pos Ht],Bc.alloc _⟩;simp[go_sem,s0,s1,s2,s3,s4]
end Go.Proofs.Tryq
namespace Go.Proofs.Tryq
open Go Go.Nk Go.RowKit
def stkV(B:Nat):Value:= .agg #[.int .i64 10,.int .i64 2,.int .i64 5,.int .i64 3,.slice (some ⟨B,0,none⟩) 7 7]
def ZdA(D n c:Nat):Value:= .agg #[.int .i64 2,.int .i64 4,.int .i64 1,.int .i64 2,.slice (some ⟨D,0,none⟩) n c]
def exS4:List Rs:=exS++[⟨20,70,70,0,0⟩]
theorem v_open0:Zo 10 2 5 3 exL []=0:=by kernel_rfl
theorem v_m1:Z1M 10 2 5 3 exL [0,1,2]=1/\Zo 10 2 5 3 exL [0,1,2]=0:=⟨by kernel_rfl,by kernel_rfl⟩
theorem v_m2:Z1M 10 2 5 3 exL [0,3]=0/\Zo 10 2 5 3 exL [0,3]=0:=⟨by kernel_rfl,by kernel_rfl⟩
theorem v_m3:Z1M 10 2 5 3 exL [0,6]=2/\Zo 10 2 5 3 exL [0,6]=0:=⟨by kernel_rfl,by kernel_rfl⟩
def exA:List Ap:=[⟨0,3,0,0⟩,⟨2,3,0,0⟩,⟨2,3,2,0⟩]
theorem v_ap:apsB (Z0Q 10 2 5 3 exL [0,2,3]) exA=true/\Zo 10 2 5 3 exL [0,2,3]=0/\(Z0Q 10 2 5 3 exL [0,2,3]).length=3:=⟨by kernel_rfl,by kernel_rfl,by kernel_rfl⟩
theorem v_fill:Z66 10 2 5 3 exL=[[0,1,2],[3,4,5]]:=by kernel_rfl
theorem v_left:Z6T 10 2 5 3 exL=[6]:=by rw[Z6T,v_fill];kernel_rfl
theorem v_wot:Z1Y 10 2 5 3 exL 3=1/\Zo 10 2 5 3 exL [3]=0:=⟨by kernel_rfl,by kernel_rfl⟩
theorem v_card:ZC 2 4 1 2 exS=0:=by kernel_rfl
theorem v_card4:ZC 2 4 1 2 exS4=0:=by kernel_rfl
theorem v_wide:Zau 2 4 1 2 exS 2=(93,102)/\Z1e 2 4 1 2 exS 2=0:=⟨by kernel_rfl,by kernel_rfl⟩
theorem v_against:Z1r 2 4 1 2 (exS.map Ze)=0:=by
 have h:=Z6X (Zav v_card) (k:=7) (by decide);rw[Z1r];rw[List.length_map];rw[show((2:Int) ^ exS.length - 1)=((7:Nat):Int) from rfl,h,if_pos (by kernel_rfl)]
theorem ZdB(rs:List Int)(h:firstV (rs++[0,0])=0):firstV (Zy 2 4 1 2 exS rs)=0:=by
 have e:Zy 2 4 1 2 exS rs=0::(rs++[0,0]):=by rw[Zy,v_card,v_against];rfl
 rw[e,firstV,if_pos rfl];exact h
theorem ZaJ(a:Int)(h:Zv a=0):markF 2 4 1 2 exS a=0:=ZdB _ (by rw[h];rfl)
theorem v_mk1:markR 2 4 1 2 exS 30=(93,100):=by rw[markR,if_pos (ZaJ 30 rfl)];kernel_rfl
theorem v_mk2:markR 2 4 1 2 exS 25=(73,80):=by rw[markR,if_pos (ZaJ 25 rfl)];kernel_rfl
theorem v_hF(k:Int)(h:Z87 76 k=0):Z8F 2 4 1 2 exS 25 76 k=0:=ZdB _ (by rw[h];rfl)
theorem v_h1:Z6c 2 4 1 2 exS 25 76 4=1:=by rw[Z6c,if_pos (v_hF 4 rfl)];kernel_rfl
theorem v_h2:Z6c 2 4 1 2 exS 25 76 3=0:=by rw[Z6c,if_pos (v_hF 3 rfl)];kernel_rfl
theorem v_best:Z8H 2 4 1 2 exS 25=(76,4):=by rw[Z8H,if_pos (ZaJ 25 rfl)];kernel_rfl
theorem v_widF:Z1O 2 4 1 2 exS 10 30=0:=ZdB _ rfl
theorem v_wid:ZaT 2 4 1 2 exS 10 30=(14,38,48):=by rw[ZaT,if_pos v_widF];kernel_rfl
theorem v_clash:Z7L 2 4 1 2 exS4=[1,3]:=by rw[Zc5 (Zav v_card4)];kernel_rfl
theorem v_trust:Z7M 2 4 1 2 exS4=[0,1,2]:=by rw[Zc6 (Zav v_card4)];kernel_rfl
theorem Z59(l:List Int)(k:Nat)(s:Int)(hl:l.length=k)(hk:k<=100)(h:Z1M 10 2 5 3 exL l=s/\Zo 10 2 5 3 exL l=0)(B:Nat)(ad:Option Addr)(w:World)(hM:Meas w)(hS:RawA w (some ⟨B,0,none⟩) exL)(hI:RawI w ad l):
 Calls prog 23 #[stkV B,.slice ad k k] w fun e w'=>e= .returned (.tuple #[.int .i64 s,.int .i64 0])/\Ext w w':=by
 have h2:=Z5Y 10 2 5 3 (some ⟨B,0,none⟩) 7 7 exL ad k k l w rfl (by decide) hl (Nat.le_refl _) hk hM hS hI;rw[h.1,h.2] at h2;exact h2
theorem Zc9(B:Nat)(ad:Option Addr)(w:World)(hM:Meas w)(hS:RawA w (some ⟨B,0,none⟩) exL)(hI:RawI w ad [0,2,3]):
 Calls prog 27 #[stkV B,.slice ad 3 3] w fun e w'=>∃v,e= .returned (.tuple #[v,.int .i64 0])/\OwnAp w.heap.size w' v (Z0Q 10 2 5 3 exL [0,2,3])/\Ext w w':=by
 have h2:=Z5Z 10 2 5 3 (some ⟨B,0,none⟩) 7 7 exL ad 3 3 [0,2,3] w rfl (by decide) rfl (by decide) (by decide) hM hS hI;rw[v_ap.2.1] at h2;exact h2
theorem ZdC(B:Nat)(w:World)(hM:Meas w)(hS:RawA w (some ⟨B,0,none⟩) exL):
 Calls prog 37 #[stkV B] w fun e w'=>∃v1 v2,e= .returned (.tuple #[v1,v2,.int .i64 0])/\Shr w.heap.size w' v1 [[0,1,2],[3,4,5]]/\OwnI w.heap.size w' v2 [6]/\Ext w w':=by
 have h2:=ZbY 10 2 5 3 (some ⟨B,0,none⟩) 7 7 exL w rfl (by decide) hM hS;rw[v_open0,v_fill,v_left] at h2;exact h2
theorem Z8I(B:Nat)(w:World)(hM:Meas w)(hS:RawA w (some ⟨B,0,none⟩) exL):
 Calls prog 59 #[stkV B,.int .i64 3] w fun e w'=>e= .returned (.tuple #[.int .i64 1,.int .i64 0])/\Ext w w':=by
 have h2:=Z6S 10 2 5 3 (some ⟨B,0,none⟩) 7 7 exL 3 w rfl (by decide) hM hS;rw[v_wot.1,v_wot.2] at h2;exact h2
theorem ZdD(D:Nat)(w:World)(hS:RawS w (some ⟨D,0,none⟩) exS):
 Calls prog 49 #[ZdA D 3 3,.int .i64 2] w fun e w'=>e= .returned (.tuple #[.agg #[.int .i64 93,.int .i64 102],.int .i64 0])/\Ext w w':=by
 have h2:=Z69 2 4 1 2 (some ⟨D,0,none⟩) 3 3 exS 2 w rfl (by decide) hS;rw[v_wide.1,v_wide.2] at h2;exact h2
theorem ZaK(a x y:Int)(h:Zv a=0)(hx:markR 2 4 1 2 exS a=(x,y))(D:Nat)(w:World)(hS:RawS w (some ⟨D,0,none⟩) exS)(hm:Most w):
 Calls prog 45 #[ZdA D 3 3,.int .i64 a] w fun e w'=>e= .returned (.tuple #[.agg #[.int .i64 x,.int .i64 y],.int .i64 0])/\Ext w w':=by
 have h2:=Z86 2 4 1 2 (some ⟨D,0,none⟩) 3 3 w a exS rfl hS hm;rw[hx,ZaJ a h] at h2;exact h2
theorem ZaL(k s:Int)(h:Z87 76 k=0)(hx:Z6c 2 4 1 2 exS 25 76 k=s)(D:Nat)(w:World)(hS:RawS w (some ⟨D,0,none⟩) exS)(hm:Most w):
 Calls prog 53 #[ZdA D 3 3,.int .i64 25,.int .i64 76,.int .i64 k] w fun e w'=>e= .returned (.tuple #[.int .i64 s,.int .i64 0])/\Ext w w':=by
 have h2:=Zc7 2 4 1 2 (some ⟨D,0,none⟩) 3 3 w 25 76 k exS rfl hS hm;rw[hx,v_hF k h] at h2;exact h2
theorem ZdE(D:Nat)(w:World)(hS:RawS w (some ⟨D,0,none⟩) exS)(hm:Most w):
 Calls prog 51 #[ZdA D 3 3,.int .i64 25] w fun e w'=>e= .returned (.tuple #[.int .i64 76,.int .i64 4,.int .i64 0])/\Ext w w':=by
 have h2:=Zc8 2 4 1 2 (some ⟨D,0,none⟩) 3 3 w 25 exS rfl hS hm;rw[v_best,ZaJ 25 rfl] at h2;exact h2
theorem ZaM(D:Nat)(w:World)(hS:RawS w (some ⟨D,0,none⟩) exS)(hm:Most w):
 Calls prog 52 #[ZdA D 3 3,.int .i64 10,.int .i64 30] w fun e w'=>e= .returned (.tuple #[.int .i64 14,.agg #[.int .i64 38,.int .i64 48],.int .i64 0])/\Ext w w':=by
 have h2:=Z8G 2 4 1 2 (some ⟨D,0,none⟩) 3 3 w 10 30 exS rfl hS hm;rw[v_wid,v_widF] at h2;exact h2
theorem Zca(D c:Nat)(w:World)(hS:RawS w (some ⟨D,0,none⟩) exS4)(hm:Most w)(hd:Deb w):
 Calls prog 66 #[ZdA D 4 c] w fun e w'=>∃v,e= .returned (.tuple #[v,.int .i64 0])/\OwnI w.heap.size w' v [1,3]/\Ext w w':=by
 have h2:=Zas 2 4 1 2 (some ⟨D,0,none⟩) 4 c exS4 w rfl hS hm hd;rw[v_clash,v_card4,if_pos rfl] at h2;exact h2
theorem Zcb(D c:Nat)(w:World)(hS:RawS w (some ⟨D,0,none⟩) exS4)(hm:Most w)(hd:Deb w):
 Calls prog 68 #[ZdA D 4 c] w fun e w'=>∃v,e= .returned (.tuple #[v,.int .i64 0])/\OwnI w.heap.size w' v [0,1,2]/\Ext w w':=by
 have h2:=Zat 2 4 1 2 (some ⟨D,0,none⟩) 4 c exS4 w rfl hS hm hd;rw[v_trust,v_card4,if_pos rfl] at h2;exact h2
theorem Z0V{w:World}{b:Nat}{l:List Int}{C:Array Value}(h:w.heap[b]? =some (.cells C 3))(hC:C.toList=l.map (Value.int .i64)):RawI w (some ⟨b,0,none⟩) l:=by
 intro i y hy;refine⟨b,0,rfl,Z5 h,?_⟩;rw[Z0 h,Nat.zero_add,<-Array.getElem?_toList,hC,List.getElem?_map,hy];rfl
theorem ZdF{w:World}{B:Nat}(h:w.heap[B]? =some (.cells exC 51)):RawA w (some ⟨B,0,none⟩) exL:=by
 intro i x hx;have hi:i<7:=(List.getElem?_eq_some_iff.1 hx).1;refine⟨B,0,rfl,Z5 h,?_,?_⟩
 ·match i,hi with
  |0,_|1,_|2,_|3,_|4,_|5,_|6,_=>
   obtain rfl:=Option.some.inj hx;exact⟨by rw[Z0 h];rfl,by rw[Z0 h];rfl,by rw[Z0 h];rfl,by rw[Z0 h];rfl,by rw[Z0 h];rfl,by rw[Z0 h];rfl,by rw[Z0 h];rfl⟩
 ·match i,hi with
  |0,_|1,_|2,_|3,_|4,_|5,_|6,_=>
   obtain rfl:=Option.some.inj hx;decide
theorem Z6Y{w:World}{B:Nat}{L:List Rs}{C:Array Value}(h:w.heap[B]? =some (.cells C 80))(hC:C.toList.take (L.length*5)=L.flatMap rsC):RawS w (some ⟨B,0,none⟩) L:=by
 have key:∀(L:List Rs)(i j:Nat)(x:Rs),L[i]? =some x->j<5->(L.flatMap rsC)[i*5+j]? =(rsC x)[j]? :=by
  intro L
  induction L with
  |nil=>intro i j x h;simp at h
  |cons y L ih=>
   intro i j x hx hj;rw[List.flatMap_cons];have hl:(rsC y).length=5:=rfl;cases i with
   |zero=>
    simp at hx;subst hx;rw[List.getElem?_append_left (by omega)];simp
   |succ i=>
    rw[List.getElem?_append_right (by omega),hl,show(i+1)*5+j - 5=i*5+j by omega];exact ih i j x (by simpa using hx) hj
 intro i x hx;have hi:i<L.length:=(List.getElem?_eq_some_iff.1 hx).1;have hc:∀j,j<5->w.cell? ⟨B,0+i*5+j,none⟩=(rsC x)[j]? :=by
  intro j hj;rw[Z0 h,Nat.zero_add,<-Array.getElem?_toList,<-key L i j x hx hj,<-hC,List.getElem?_take,if_pos (by omega)]
 exact⟨B,0,rfl,Z5 h,hc 0 (by omega),hc 1 (by omega),hc 2 (by omega),hc 3 (by omega),hc 4 (by omega)⟩
end Go.Proofs.Tryq
