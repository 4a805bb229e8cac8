import Derived.Test.YtedkbdkbbnemlaaGreatDoorNkA
import Derived.Test.YtedkbdkbbnemlaaGreatDoorNk23
set_option linter.all false
namespace Go.Proofs.Tryq
set_option maxRecDepth 100000
set_option maxHeartbeats 4000000
open Go Go.Nk Go.RowKit
open Go.Maps (Keyed)
open Go.ChangeMaps (setBlock)
theorem Zif{X:Nat->Prop}(w:World){b:Nat}(hx:X b)(o:Obj):ExtX X w (setBlock w b o):=
 ⟨by rw[Z2s];exact Nat.le_refl _,fun k _ hn=>Z0O (fun e=>hn (by rw[e];exact hx)) _,rfl,rfl,rfl⟩
theorem Z65(a b c m:Int)(base:Option Addr)(n cap:Nat)(L:List Sf)(out:Nat->Bool)(w:World)(hG:Good a b c L)(A3:L.length=n)(hn:n<=9)(hm:2<=m/\m<=4)(hM:Meas w)(hS:RawA w base L):
 Calls prog 100 #[.agg #[.int .i64 a,.int .i64 b,.int .i64 c,.int .i64 m,.slice base n cap],.agg (Zs out)] w fun e w'=>∃v,e= .returned v/\Shr w.heap.size w' v (Zk (Zt a b c L n out m.toNat [] 0) n 0 out)/\Ext w w':=by
 have H1:=fun W (hW:Ext w W)=>ZbU a b c m base n cap L out W hG A3 hn hm (hM.ext hW) (hS.ext hW)
 have Pi:∀l∈Zt a b c L n out m.toNat [] 0,l.Pairwise (·<·)/\(∀p∈l,0<=p/\p<(n:Int))/\l.length=m.toNat:=fun l hl=>by
  have:=Z2A a b c L n out m.toNat [] 0 l hl (by simp) List.Pairwise.nil;exact⟨this.1,this.2.1,by simpa using this.2.2⟩
 have Xx:(Zt a b c L n out m.toNat [] 0).length<=100000:=by
  refine Nat.le_trans (Z3L a b c L n out hn m.toNat [] 0) ?_;have:m.toNat=2\/m.toNat=3\/m.toNat=4:=by omega
  rcases this with h|h|h<;>rw[h]<;>decide
 have hTe:Z62 (Zt a b c L n out m.toNat [] 0):=Z6R a b c L n m.toNat out;generalize Zt a b c L n out m.toNat [] 0=T at H1 Pi Xx hTe⊢;have Hf:= @run_makeMap prog;simp only[Zs] at H1⊢;go_enter func100,ntmps100
 go_wp2_with (
  go_at_call 115;refine(H1 _ (((((Ext.rfl' w).alloc _).alloc _).alloc _).alloc _)).mono ?_;rintro e w2 ⟨v,vs,rfl,Ee,I7,A8⟩
  have Av:Ext w w2:=Ext.trans (((((Ext.rfl' w).alloc _).alloc _).alloc _).alloc _) A8;have g0:w2.heap[w.heap.size]? =some (.cells #[.int .i64 a,.int .i64 b,.int .i64 c,.int .i64 m,.slice base n cap] 120):=A8.get (by simp only[Z3,Z2];rw[if_neg (by omega),if_neg (by omega),if_neg (by omega),if_pos trivial]);have g1:w2.heap[w.heap.size+1]? =some (.cells (Zs out) 138):=A8.get (by simp only[Z3,Z2];rw[if_neg (by omega),if_neg (by omega),if_pos trivial];rfl);have g2:w2.heap[w.heap.size+1+1]? =some (.map #[] 0):=A8.get (by simp only[Z3,Z2];rw[if_neg (by omega),if_pos trivial]);have g3:w2.heap[w.heap.size+1+1+1]? =some (.cells #[.map (some (w.heap.size+1+1))] 182):=A8.get (by simp only[Z3,Z2];rw[if_pos trivial]);have O9:w.heap.size+4<=w2.heap.size:=by have:=A8.size;simp only[Z2] at this;omega
  replace Ee:=Z05 Ee (show w.heap.size<=_ by simp only[Z2];omega);replace I7:=I7.mono fun u s h=>OwnI.le h (show w.heap.size<=_ by simp only[Z2];omega)
  clear A8;obtain⟨ao,cp,rfl⟩:∃ao cp,v= .slice ao vs.length cp:=by
   rcases Ee.2 with⟨rfl,h⟩|⟨g,cp,_,rfl,_⟩
   ·exact⟨none,0,by rw[h]⟩
   ·exact⟨_,cp,rfl⟩)
 clear H1 Hf;have La:=I7.length;rw[La] at Ee⊢;obtain⟨B,hB⟩:∃B,B=w.heap.size:=⟨_,rfl⟩;rw[<-hB] at Ee I7;have T7:ByAt B w2.heap.size n (w.heap.size+1+1) (T.take 0) w2:=by
  refine⟨fun _=>none,⟨#[],0,g2,by simp,by simp,by simp,by simp⟩,fun i hi=>Shr.nil _ _,fun i j _ _ _=> .inl rfl,fun i hi k hk=>by cases hk⟩
 go_loopw [15] (fun v15 wr=>∃j:Nat,j<=T.length/\v15= .int .i64 j/\Map1 (w.heap.size+1+1) w2 wr/\ByAt B w2.heap.size n (w.heap.size+1+1) (T.take j) wr) (fun v15 _=>T.length - (intOf v15).toNat)
 case atStart=>exact⟨0,Nat.zero_le _,rfl,Map1.refl _ _,T7⟩
 case round=>
  obtain⟨j,hj,rfl,hX,Y8⟩:=hrel;clear T7;by_cases Io:j=T.length
  ·subst Io;rw[List.take_length] at Y8;obtain⟨G,Cq,Bp,_,_⟩:=Y8;have C6:Ext w wr:=BelowX.ext hX Av (by omega) Av.size;have hwsz:=hX.size;have g5:=(hX.block _ (Z5 g0) (by omega)).trans g0;have g6:=(hX.block _ (Z5 g1) (by omega)).trans g1;have g7:=(hX.block _ (Z5 g3) (by omega)).trans g3;have z0:=Z0 g6 0;have z1:=Z0 g6 1;have z2:=Z0 g6 2;have z3:=Z0 g6 3;have z4:=Z0 g6 4;have z5:=Z0 g6 5;have z6:=Z0 g6 6;have z7:=Z0 g6 7;have z8:=Z0 g6 8;simp only[Zs,YC,YA,YB] at z0 z1 z2 z3 z4 z5 z6 z7 z8
   have Hl:∀W,W=(((wr.alloc (.map #[] 0)).alloc (.cells #[.map (some wr.heap.size)] 183)).alloc (.cells #[.func (.func 145) #[] #[.pointer (some ⟨w.heap.size,0,none⟩),.pointer (some ⟨wr.heap.size+1,0,none⟩),.pointer (some ⟨w.heap.size+1+1+1,0,none⟩),.pointer (some ⟨wr.heap.size+1+1,0,none⟩)]] 184))->
    Calls prog 145 #[.int .i64 0,.agg (Zs out),.pointer (some ⟨w.heap.size,0,none⟩),.pointer (some ⟨wr.heap.size+1,0,none⟩),.pointer (some ⟨w.heap.size+1+1+1,0,none⟩),.pointer (some ⟨wr.heap.size+1+1,0,none⟩)] W fun e W'=>∃v,e= .returned v/\Shr B W' v (Zk T n 0 out)/\Ext w W':=by
    intro W hW;have Ba:Ext wr W:=(by rw[hW];exact(((Ext.rfl' wr).alloc _).alloc _).alloc _);have k0:W.heap[wr.heap.size]? =some (.map #[] 0):=(by rw[hW];simp only[Z3,Z2];rw[if_neg (by omega),if_neg (by omega),if_pos trivial]);have k1:W.heap[wr.heap.size+1]? =some (.cells #[.map (some wr.heap.size)] 183):=(by rw[hW];simp only[Z3,Z2];rw[if_neg (by omega),if_pos trivial]);have k2:W.heap[wr.heap.size+1+1]? =some (.cells #[.func (.func 145) #[] #[.pointer (some ⟨w.heap.size,0,none⟩),.pointer (some ⟨wr.heap.size+1,0,none⟩),.pointer (some ⟨w.heap.size+1+1+1,0,none⟩),.pointer (some ⟨wr.heap.size+1+1,0,none⟩)]] 184):=(by rw[hW];simp only[Z3,Z2];rw[if_pos trivial]);have Kl:MapAt prog 138 W wr.heap.size (fun _=>none):=⟨#[],0,k0,by simp,by simp,by simp,by simp⟩;have Hv:=Cq.lt
    refine(Z8B a b c m base n cap T B w.heap.size (wr.heap.size+1) (w.heap.size+1+1+1) (wr.heap.size+1+1) wr.heap.size (w.heap.size+1+1) hn hTe (by omega) (fun l hl=>⟨(Pi l hl).2.1,by rw[(Pi l hl).2.2];omega⟩) n 0 out W (fun _=>none) (by omega)
     ⟨Ba.get g5,k1,Ba.get g7,k2,⟨G,Cq.keep (Ba.old _ Hv),fun i hi=>(Bp i hi).ext Ba⟩,⟨by omega,by omega,by omega,by omega,by omega⟩,by have:=Ba.size;omega⟩ ⟨Kl,fun key v hv=>by cases hv⟩).mono ?_
    rintro e W' ⟨v,G',rfl,hS',hK',hM'⟩;exact⟨v,rfl,hS',BelowX.ext hM' (C6.trans Ba) C6.size (C6.trans Ba).size⟩
   simp only[Zs] at Hl;have Hf:= @run_makeMap prog;clear hX Bp Cq;have hl6:=Z5 g6;have Pc:∀(o1 o2 o3:Obj)(k:Nat),(((wr.alloc o1).alloc o2).alloc o3).cell? ⟨w.heap.size+1,k,none⟩=wr.cell? ⟨w.heap.size+1,k,none⟩:=fun o1 o2 o3 k=>((((Ext.rfl' wr).alloc o1).alloc o2).alloc o3).cell hl6
   go_wp2_with (
    go_at_call 145;refine(Hl _ rfl).mono ?_;rintro e w5 ⟨v,rfl,Ya,B4⟩)
   go_ret;exact⟨v,rfl,by rw[<-hB];exact Ya,B4⟩
  ·have Cp:j<T.length:=by omega
   have hjv:j<vs.length:=by omega
   obtain⟨l,hl⟩:∃l,T[j]? =some l:=⟨_,YH Cp⟩;obtain⟨u,hu,Er⟩:=I7.get j l hl;obtain⟨T8,B8,Vb⟩:=Pi l (YQ hl);obtain⟨gr,cr,Sy,Sz,Kz⟩:=Ee.form (by omega);obtain⟨rfl,rfl⟩:ao=some ⟨gr,0,none⟩/\cp=cr:=by simpa using Sy
   have Lb:=Ee.cells (g:=gr) rfl j u hu;rw[Z0c] at Lb;obtain⟨gl,cl,rfl,T0,Jb⟩:=Er.form (by omega);obtain⟨p,hp⟩:∃p,l[0]? =some p:=⟨_,YH (by omega)⟩;have O8:=B8 p (YQ hp);obtain⟨i,rfl⟩:=Int.eq_ofNat_of_zero_le O8.1;have I5:=Er.cells (g:=gl) rfl 0 (.int .i64 i) (by rw[List.getElem?_map,hp];rfl);rw[Z0c] at I5;have Aw:i<n:=by omega
   obtain⟨es2,ck2,Of⟩:∃es ck,w2.heap[w.heap.size+1+1]? =some (.map es ck):=⟨_,_,g2⟩;have Yb:gr≠w.heap.size+1+1:=by
    rintro rfl;obtain⟨_,⟨h,_⟩|⟨_,_,_,h,_,hc,_⟩⟩:=Ee
    ·cases h
    ·cases h;rw[g2] at hc;cases hc
   have T9:gl≠w.heap.size+1+1:=by
    rintro rfl;obtain⟨_,⟨h,_⟩|⟨_,_,_,h,_,hc,_⟩⟩:=Er
    ·cases h
    ·cases h;rw[g2] at hc;cases hc
   have D8:∀(q:Addr),q.block<w2.heap.size->q.block≠w.heap.size+1+1->wr.cell? q=w2.cell? q:=fun q h1 h2=>by simp only[World.cell?,hX.block _ h1 h2]
   replace Lb:=(D8 ⟨gr,j,none⟩ Kz Yb).trans Lb;have hlc:wr.drew.cell? ⟨gl,0,none⟩=some (.int .i64 i):=(D8 ⟨gl,0,none⟩ Jb T9).trans I5;have hyc:wr.drew.cell? ⟨w.heap.size+1+1+1,0,none⟩=some (.map (some (w.heap.size+1+1))):=(D8 ⟨w.heap.size+1+1+1,0,none⟩ (Z5 g3) (by simp)).trans (by rw[Z0 g3];rfl);obtain⟨G,Cq,Bp,Ch,Bf⟩:=Y8;have An:=Bp i Aw;obtain⟨ra,rc,On⟩:=An.form;obtain⟨Ek,rvs,Oo,hre⟩:=An;rw[On] at Oo Ek;have R4:=hre.length;have Ta:wr.drew.ownsRow B 27 1 (.slice ra (byL (T.take j) i).length rc) rvs.length rvs:=Z00 Oo ((Ext.rfl' wr).drew);have Mh:wr.drew.ownsRow B 27 1 (.slice ra (byL (T.take j) i).length rc) (byL (T.take j) i).length rvs:=by have h:=Ta;rw[R4] at h;exact h
   have Mi:∀W,W=wr.drew\/W=wr.drew.alloc (.cells #[.slice (some ⟨gl,0,none⟩) l.length cl] 27)->(Instr.lookup 182 (.map (some (w.heap.size+1+1))) (.int .i64 i) false).run prog W= .ok (.slice ra (byL (T.take j) i).length rc) W:=by
    intro W hW;obtain⟨kl,F0⟩:=Z3M i (by omega);have Fb:MapAt prog 3 W (w.heap.size+1+1) G:=by
     rcases hW with rfl|rfl
     ·exact Cq.keep rfl
     ·exact Cq.keep (((Ext.rfl' wr).drew.alloc _).old _ Cq.lt)
    have:=Fb.lookup K3 u182 (Zap W) F0 false;rw[if_neg (by decide)] at this;rw[this];exact congrArg (fun v=>Result.ok v W) On
   have Tb:B<=(wr.drew.alloc (.cells #[.slice (some ⟨gl,0,none⟩) l.length cl] 27)).heap.size:=by simp only[Z2];have:=hX.size;have:wr.drew.heap.size=wr.heap.size:=rfl;omega
   have hrlen:(byL (T.take j) i).length<=100000:=Nat.le_trans (List.length_filter_le _ _) (by rw[List.length_take];omega);obtain⟨A,hA⟩:∃A:Value->World->Prop,A=fun v w3=>w3.ownsRow B 27 1 v (rvs.length+1) (rvs++[.slice (some ⟨gl,0,none⟩) l.length cl])/\(wr.drew.alloc (.cells #[.slice (some ⟨gl,0,none⟩) l.length cl] 27)).grownBy w3 (Value.ownBlock (.slice ra (byL (T.take j) i).length rc))/\((v.ownBlock=Value.ownBlock (.slice ra (byL (T.take j) i).length rc))\/∀k,v.ownBlock=some k->(wr.drew.alloc (.cells #[.slice (some ⟨gl,0,none⟩) l.length cl] 27)).heap.size<=k):=⟨_,rfl⟩
   have Yc:∀v w3,A v w3->w3.ownsRow B 27 1 v (rvs.length+1) (rvs++[.slice (some ⟨gl,0,none⟩) l.length cl])/\(wr.drew.alloc (.cells #[.slice (some ⟨gl,0,none⟩) l.length cl] 27)).grownBy w3 (Value.ownBlock (.slice ra (byL (T.take j) i).length rc))/\((v.ownBlock=Value.ownBlock (.slice ra (byL (T.take j) i).length rc))\/∀k,v.ownBlock=some k->(wr.drew.alloc (.cells #[.slice (some ⟨gl,0,none⟩) l.length cl] 27)).heap.size<=k):=fun v w3 h=>by rw[hA] at h;exact h
   have Vh:∀v w3,w3.ownsRow B 27 1 v (rvs.length+1) (rvs++[.slice (some ⟨gl,0,none⟩) l.length cl])/\(wr.drew.alloc (.cells #[.slice (some ⟨gl,0,none⟩) l.length cl] 27)).grownBy w3 (Value.ownBlock (.slice ra (byL (T.take j) i).length rc))/\((v.ownBlock=Value.ownBlock (.slice ra (byL (T.take j) i).length rc))\/∀k,v.ownBlock=some k->(wr.drew.alloc (.cells #[.slice (some ⟨gl,0,none⟩) l.length cl] 27)).heap.size<=k)->A v w3:=fun v w3 h=>by rw[hA];exact h
   clear hA;have Tc:∀v w3,A v w3->∀k,k<w2.heap.size->w3.heap[k]? =wr.heap[k]? :=by
    intro v w3 h k hk;obtain⟨_,hg,_⟩:=Yc v w3 h;rw[hg.block k (by simp only[Z2];have:=hX.size;have:wr.drew.heap.size=wr.heap.size:=rfl;omega) (fun e=>by have:=Bf i Aw k (by rw[On];exact e.symm);omega)];rw[Z3,if_neg (by have:=hX.size;have:wr.drew.heap.size=wr.heap.size:=rfl;omega)];rfl
   have Aa:∀v w3,A v w3->∃o,(Instr.mapUpdate 182 (.map (some (w.heap.size+1+1))) (.int .i64 i) v).run prog w3= .ok () (setBlock w3 (w.heap.size+1+1) o)/\ByAt B w2.heap.size n (w.heap.size+1+1) (T.take (j+1)) (setBlock w3 (w.heap.size+1+1) o):=by
    intro v w3 h;obtain⟨h1,h2,h3⟩:=Yc v w3 h;rw[Z0G hl];have Qb:Ext wr (wr.drew.alloc (.cells #[.slice (some ⟨gl,0,none⟩) l.length cl] 27)):=(Ext.rfl' wr).drew.alloc _
    exact ByAt.step (W:=wr.drew.alloc (.cells #[.slice (some ⟨gl,0,none⟩) l.length cl] 27)) (G:=G) (Cq.keep (Qb.old _ Cq.lt)) (fun q hq=>(Bp q hq).ext Qb) Ch Bf (Nat.le_trans hX.size Qb.size) Aw (by omega) (by rw[List.head?_eq_getElem?];exact hp)
     (Z00 (Z2R Er hX g2) Qb) (by rw[On];exact Z00 Oo Qb) (hre.mono fun u s h=>Z00 h Qb) h1 (by rw[On];exact h2) (by rw[On];exact h3)
   have V6:¬((l.length:Int)<=0):=by omega
   have hlne:¬l=[]:=by rintro rfl;simp at V6
   clear Vb;clear D8;go_wp2_with fail;refine Zia (T:=Value×World×Obj) (fun z=>[(19,.map (some (w.heap.size+1+1))),(20,.slice (some ⟨gl,0,none⟩) l.length cl),(21,.pointer (some ⟨gl,0,none⟩)),(22,.int .i64 i),(23,.map (some (w.heap.size+1+1))),(24,.slice (some ⟨gl,0,none⟩) l.length cl),(25,.pointer (some ⟨gl,0,none⟩)),(26,.int .i64 i),(27,.slice ra (byL (T.take j) i).length rc),(28,.slice (some ⟨gl,0,none⟩) l.length cl),(29,.slice (some ⟨wr.drew.heap.size,0,none⟩) 1 1),(30,z.1)]) (fun z W=>A z.1 z.2.1/\W=setBlock z.2.1 (w.heap.size+1+1) z.2.2/\ByAt B w2.heap.size n (w.heap.size+1+1) (T.take (j+1)) (setBlock z.2.1 (w.heap.size+1+1) z.2.2)) ?_ ?_
   ·refine Zhk (ExtX fun q=>wr.heap.size<=q\/Value.ownBlock (.slice ra (byL (T.take j) i).length rc)=some q\/q=w.heap.size+1+1) (by kernel_rfl) ?_;have hyd:=((Ext.rfl' wr).drew).cellS hyc;have hld:=((Ext.rfl' wr).drew).cellS hlc;have Yd:∀k,Value.ownBlock (.slice ra (byL (T.take j) i).length rc)=some k->w2.heap.size<=k:=fun k hk=>Bf i Aw k (by rw[On];exact hk)
    have hy3:=Z5 g3;have hyN:¬(wr.heap.size<=w.heap.size+1+1+1\/Value.ownBlock (.slice ra (byL (T.take j) i).length rc)=some (w.heap.size+1+1+1)\/w.heap.size+1+1+1=w.heap.size+1+1):=by
     rintro(h|h|h)
     ·have:=hX.size;omega
     ·have:=Yd _ h;omega
     ·omega
    have Xo:¬(wr.heap.size<=gl\/Value.ownBlock (.slice ra (byL (T.take j) i).length rc)=some gl\/gl=w.heap.size+1+1):=by
     rintro(h|h|h)
     ·have:=hX.size;omega
     ·have:=Yd _ h;omega
     ·exact T9 h
    have gy:=GrE.cell (X:=fun q=>wr.heap.size<=q\/Value.ownBlock (.slice ra (byL (T.take j) i).length rc)=some q\/q=w.heap.size+1+1) hyN hyd;have gz:=GrE.cell (X:=fun q=>wr.heap.size<=q\/Value.ownBlock (.slice ra (byL (T.take j) i).length rc)=some q\/q=w.heap.size+1+1) Xo hld;clear hyN Xo Yd;refine Zh8 (ExtX.pre _) [0,1,2,3,4,5,6,7,9] (by kernel_rfl) (by kernel_rfl) ?_;simp only[ZeD,YB,YA,YK,YJ]
    repeat (go_big_quiet_step (fail))
    refine wpQuiet_nil ?_;clear gy gz;refine Zir 8 10 rfl rfl (by kernel_rfl) rfl rfl ?_ ?_
    ·refine Zf3 ⟨.slice ra (byL (T.take j) i).length rc,wr.drew,by have Fc:=Mi (wr.drew) (.inl rfl);simp[go_sem,execOp,Act.eval,Fc],Go.Nk.Ext.toX (Ext.rfl' _) _,?_⟩;go_simp;refine Zh4 10 rfl (by kernel_rfl) rfl ?_;refine Zf3 ⟨.slice (some ⟨wr.drew.heap.size,0,none⟩) 1 1,wr.drew.alloc (.cells #[.slice (some ⟨gl,0,none⟩) l.length cl] 27),by simp[go_sem,execOp,Act.eval],Go.Nk.Ext.toX ((Ext.rfl' _).alloc _) _,?_⟩;go_simp;refine Zh4 11 rfl (by kernel_rfl) rfl ?_;refine Z3V _ _ 57 rfl B 27 Tryz.t27 (.slice none 0 0) 1 24 u57 i27 t27z t27s t27b rfl (by omega) (.slice ra (byL (T.take j) i).length rc) (byL (T.take j) i).length rvs rfl (Mh.alloc _) ⟨wr.drew.heap.size,0,none⟩ 1 1 [.slice (some ⟨gl,0,none⟩) l.length cl] rfl rfl (Z1N _ _ _) (by intro u hu;rw[List.mem_singleton.1 hu];rfl) (by simp[maxLen];omega) (by omega) Tb (fun v' w3 Al Jg Oq=>⟨Zhv Jg (fun k hk=> .inr (.inl hk)),?_⟩);have Td:=Vh v' w3 ⟨by rw[R4];exact Al,Jg,Oq⟩;obtain⟨o,En,Ka⟩:=Aa v' w3 Td;go_simp;refine Zh4 12 rfl (by kernel_rfl) rfl (Zie ⟨setBlock w3 (w.heap.size+1+1) o,by simp[go_sem,execOp,Act.eval,En],Zif w3 (.inr (.inr rfl)) o,?_⟩);go_simp;refine ZhF (by kernel_rfl) ?_;exact⟨rfl,v',(by simp only[Zip,Act.put];go_simp),w3,Td,o,rfl,(by rw[hB] at Ka;exact Ka)⟩
    ·refine Zf3 ⟨.slice (some ⟨wr.drew.heap.size,0,none⟩) 1 1,wr.drew.alloc (.cells #[.slice (some ⟨gl,0,none⟩) l.length cl] 27),by simp[go_sem,execOp,Act.eval],Go.Nk.Ext.toX ((Ext.rfl' _).alloc _) _,?_⟩;go_simp;refine Zh4 8 rfl (by kernel_rfl) rfl ?_;refine Zf3 ⟨.slice ra (byL (T.take j) i).length rc,wr.drew.alloc (.cells #[.slice (some ⟨gl,0,none⟩) l.length cl] 27),by have Fc:=Mi (wr.drew.alloc (.cells #[.slice (some ⟨gl,0,none⟩) l.length cl] 27)) (.inr rfl);simp only[World.alloc_drew] at Fc;simp[go_sem,execOp,Act.eval,Fc],Go.Nk.Ext.toX (Ext.rfl' _) _,?_⟩;go_simp;refine Zh4 11 rfl (by kernel_rfl) rfl ?_;refine Z3V _ _ 57 rfl B 27 Tryz.t27 (.slice none 0 0) 1 24 u57 i27 t27z t27s t27b rfl (by omega) (.slice ra (byL (T.take j) i).length rc) (byL (T.take j) i).length rvs rfl (Mh.alloc _) ⟨wr.drew.heap.size,0,none⟩ 1 1 [.slice (some ⟨gl,0,none⟩) l.length cl] rfl rfl (Z1N _ _ _) (by intro u hu;rw[List.mem_singleton.1 hu];rfl) (by simp[maxLen];omega) (by omega) Tb (fun v' w3 Al Jg Oq=>⟨Zhv Jg (fun k hk=> .inr (.inl hk)),?_⟩);have Td:=Vh v' w3 ⟨by rw[R4];exact Al,Jg,Oq⟩;obtain⟨o,En,Ka⟩:=Aa v' w3 Td;go_simp;refine Zh4 12 rfl (by kernel_rfl) rfl (Zie ⟨setBlock w3 (w.heap.size+1+1) o,by simp[go_sem,execOp,Act.eval,En],Zif w3 (.inr (.inr rfl)) o,?_⟩)
     go_simp;refine ZhF (by kernel_rfl) ?_;exact⟨rfl,v',(by simp only[Zip,Act.put];go_simp),w3,Td,o,rfl,(by rw[hB] at Ka;exact Ka)⟩
   ·rintro⟨v9,w9,o9⟩ W ⟨Ye,Mj,Or⟩;simp only at Ye Mj Or;simp only[Zip,Act.put];replace Mj:Hid (W=setBlock w9 (w.heap.size+1+1) o9):=Mj;go_simp;replace Mj:=Mj.out;have Te:Map1 (w.heap.size+1+1) w2 W:=by
     obtain⟨_,k1,_⟩:=Yc _ _ Ye;rw[Mj];have Hn:=k1.size;simp only[Z2] at Hn;have Ij:wr.drew.heap.size=wr.heap.size:=rfl;exact⟨k1.os.trans hX.os,k1.tape.trans hX.tape,k1.output.trans hX.output,by rw[Z2s];have:=hX.size;omega,fun k hk A9=>(Z0O A9 _).trans ((Tc _ _ Ye k hk).trans (hX.block k hk A9))⟩
    rw[<-Mj] at Or;clear Mj;go_wp2;exact⟨⟨j+1,by omega,by push_cast;rfl,Te,Or⟩,by simp[intOf];omega⟩
end Go.Proofs.Tryq
namespace Go.Proofs.Tryq
set_option maxRecDepth 100000
set_option maxHeartbeats 4000000
open Go Go.Nk Go.RowKit
theorem Z7I{w:World}{b:Nat}{x:Int}(h:w.heap[b]? =some (.cells #[.int .i64 x] 3)):RawI w (some ⟨b,0,none⟩) [x]:=by
 intro i y hy
 match i,hy with
 |0,hy=>
  obtain rfl:=YT hy;exact⟨b,0,rfl,Z5 h,by rw[Z0 h];rfl⟩
def Z1Y(a b c m:Int)(L:List Sf)(k:Int):Int:=if Zo a b c m L [k]=0 then(Zk (Zt a b c L L.length (fun j=>j==k.toNat) m.toNat [] 0) L.length 0 (fun j=>j==k.toNat)).length else 0
theorem Z6S(a b c m:Int)(base:Option Addr)(n cap:Nat)(L:List Sf)(k:Int)(w:World)(A3:L.length=n)(hn:n<=20)(hM:Meas w)(hS:RawA w base L):
 Calls prog 59 #[.agg #[.int .i64 a,.int .i64 b,.int .i64 c,.int .i64 m,.slice base n cap],.int .i64 k] w fun e w'=>e= .returned (.tuple #[.int .i64 (Z1Y a b c m L k),.int .i64 (Zo a b c m L [k])])/\Ext w w':=by
 have ho:=fun W hW ad hl=>Z3c a b c m base n cap L ad 1 1 [k] W A3 hn rfl (by omega) (hM.ext hW) (hS.ext hW) hl
 by_cases h:Zo a b c m L [k]=0
 ·obtain⟨hG,Aw,Lz,hm⟩:=Z1n h;have hk:=Aw k (by simp);obtain⟨q,rfl⟩:=Int.eq_ofNat_of_zero_le hk.1;have hq:q<9:=by omega
  have R9:(0:Int)<=(q:Int):=by omega
  have Mg:(q:Int)<9:=by omega
  have hF:Z1Y a b c m L q=(Zk (Zt a b c L n (fun j=>j==q) m.toNat [] 0) n 0 (fun j=>j==q)).length:=by rw[Z1Y,if_pos h,A3,Int.toNat_natCast]
  have B9:=fun W hW=>Z65 a b c m base n cap L (fun j=>j==q) W hG A3 (by omega) hm (hM.ext hW) (hS.ext hW)
  rw[h] at ho⊢;rw[hF];generalize Zk (Zt a b c L n (fun j=>j==q) m.toNat [] 0) n 0 (fun j=>j==q)=Bs at B9⊢;simp only[Zs] at B9;clear hF h hk Aw;have hqs:q=3\/q=0\/q=1\/q=2\/q=4\/q=5\/q=6\/q=7\/q=8:=by omega
  clear hq R9 Mg;rcases hqs with rfl|rfl|rfl|rfl|rfl|rfl|rfl|rfl|rfl
  all_goals
   go_enter func59,ntmps59
   go_wp2_with (first
    |(go_at_call 86;refine(ho _ (by(repeat (with_reducible first|assumption|exact Ext.rfl' _|apply Ext.alloc|apply Ext.drew))) _ (Z7I (by simp only[Z3,Z2];exact if_pos trivial))).mono ?_;rintro e w2 ⟨rfl,A8⟩
      have Av:Ext w w2:=Ext.trans (by(repeat (with_reducible first|assumption|exact Ext.rfl' _|apply Ext.alloc|apply Ext.drew))) A8)
    |(go_at_call 100;refine(B9 _ (by(repeat (with_reducible first|assumption|exact Ext.rfl' _|apply Ext.alloc|apply Ext.drew|exact Ext.setCell (by(repeat (with_reducible first|assumption|exact Ext.rfl' _|apply Ext.alloc|apply Ext.drew))) _ _ (by simp only[Z2];have:=Av.size;omega))))).mono ?_;rintro e w3 ⟨v,rfl,Tf,Ar⟩
      obtain⟨ao,cp,rfl⟩:=Tf.form))
   go_ret2;exact⟨rfl,((Av.alloc _).alloc _).trans Ar⟩
 ·have hF:Z1Y a b c m L k=0:=by rw[Z1Y,if_neg h]
  have A9:(Zo a b c m L [k] !=0)=true:=by simpa using h
  rw[hF];generalize Zo a b c m L [k]=f at ho A9⊢;go_enter func59,ntmps59
  go_wp2_with (
   go_at_call 86;refine(ho _ (by(repeat (with_reducible first|assumption|exact Ext.rfl' _|apply Ext.alloc|apply Ext.drew))) _ (Z7I (by simp only[Z3,Z2];exact if_pos trivial))).mono ?_;rintro e w2 ⟨rfl,A8⟩
   have Av:Ext w w2:=Ext.trans (by(repeat (with_reducible first|assumption|exact Ext.rfl' _|apply Ext.alloc|apply Ext.drew))) A8)
  go_ret2;exact⟨rfl,Av.alloc _⟩
end Go.Proofs.Tryq
namespace Go.Proofs.Tryq
open Go Go.Nk Go.RowKit
def Z66(a b c m:Int)(L:List Sf):List (List Int):=if Zo a b c m L []=0 then Zk (Zt a b c L L.length (fun _=>false) m.toNat [] 0) L.length 0 (fun _=>false) else[]
def inL(S:List (List Int))(i:Nat):Bool:=S.any fun l=>l.contains (i:Int)
def Z32(n:Nat)(S:List (List Int)):List Int:=((List.range n).filter fun i=> !inL S i).map fun(i:Nat)=>(i:Int)
def Z6T(a b c m:Int)(L:List Sf):List Int:=if Zo a b c m L []=0 then Z32 L.length (Z66 a b c m L) else[]
theorem ZbX(S:List (List Int))(l:List Int)(i:Nat):inL (S++[l]) i=(inL S i||l.contains (i:Int)):=by simp[inL,List.any_append]
theorem Z8C(S:List (List Int))(i:Nat):Z32 (i+1) S=if inL S i=true then Z32 i S else Z32 i S++[(i:Int)]:=by
 rw[Z32,List.range_succ,List.filter_append,List.map_append];cases h:inL S i<;>simp[Z32,h]
theorem Zaq(n:Nat)(S:List (List Int)):(Z32 n S).length<=n:=by
 have:=List.length_filter_le (fun i=> !inL S i) (List.range n);simpa[Z32] using this
theorem Z3O{T:List (List Int)}:∀(d i:Nat)(u:Nat->Bool),∀l∈Zk T d i u,l∈T
 |0,_,_,l,h=>by cases h
 |d+1,i,u,l,h=>by
  have hb:∀(P:List Int->Prop)(a b:List (List Int)),(∀l∈a,P l)->(∀l∈b,P l)->∀l∈Z0q a b,P l:=fun P a b h h'=>by unfold Z0q;split<;>assumption
  have hf:∀(B mo:List (List Int)),(∀l∈B,l∈T)->(∀l∈mo,l∈T)->∀l∈B.foldl (ZL u (Zk T d (i+1))) mo,l∈T:=by
   intro B
   induction B with
   |nil=>exact fun mo _ h=>h
   |cons x B ih=>
    intro mo hB hm;rw[List.foldl_cons];refine ih _ (fun l hl=>hB l (YW _ hl)) ?_;unfold ZL;split
    ·exact hm
    ·refine hb _ _ _ hm fun l hl=> ?_
     rcases List.mem_cons.1 hl with rfl|hl
     ·exact hB _ YY
     ·exact Z3O d (i+1) _ l hl
  rw[Zk] at h;exact hb _ _ _ (hf _ _ (fun l hl=>(List.mem_filter.1 hl).1) (fun l hl=>by cases hl)) (fun l hl=>Z3O d (i+1) u l hl) l h
theorem Zdw{B:Nat}{w:World}{v:Value}{ls:List (List Int)}(h:Shr B w v ls){j:Nat}{l:List Int}(hl:ls[j]? =some l)(h0:l≠[]):
 ∃gr cr gl cl,v= .slice (some ⟨gr,0,none⟩) ls.length cr/\B<=gr/\gr<w.heap.size/\w.cell? ⟨gr,j,none⟩=some (.slice (some ⟨gl,0,none⟩) l.length cl)/\OwnI B w (.slice (some ⟨gl,0,none⟩) l.length cl) l/\B<=gl/\gl<w.heap.size/\l.length<=cl:=by
 obtain⟨_,vs,h1,h2⟩:=h;have A3:=h2.length;have hj:j<ls.length:=(YI.1 hl).1;obtain⟨gr,cr,rfl,hb,hg⟩:=h1.form (by omega);obtain⟨u,hu,Er⟩:=h2.get j l hl;have hc:=h1.cells (g:=gr) rfl j u hu;rw[Z0c] at hc;have Fw:0<l.length:=List.length_pos_iff.2 h0;obtain⟨_,⟨h,_⟩|⟨gl,cl,cur,rfl,Ao,Kw,Df,_⟩⟩:=Er
 ·subst h;rename_i hx hz;simp at hz;exact absurd hz h0
 ·rename_i hx hq;exact⟨gr,cr,gl,cl,by rw[A3],hb,hg,hc,⟨hx,.inr ⟨gl,cl,cur,rfl,Ao,Kw,Df,hq⟩⟩,Ao,Z5 Kw,Df⟩
end Go.Proofs.Tryq
namespace Go.Proofs.Tryq
set_option maxRecDepth 100000
set_option maxHeartbeats 4000000
open Go Go.Nk Go.RowKit
theorem Shr.belowX{B ib:Nat}{w w':World}{v:Value}{ls:List (List Int)}(h:Shr B w v ls)(hX:BelowX w.heap.size ib w w')(Pu:ib<B):Shr B w' v ls:=by
 have key:∀{e:TypeId}{v:Value}{n:Nat}{xs:List Value},w.ownsRow B e 1 v n xs->w'.ownsRow B e 1 v n xs:=fun h=>Z3d h fun k hv=>hX.block k (h.lt k hv).2 (by have:=(h.lt k hv).1;omega)
 obtain⟨h0,vs,h1,h2⟩:=h;exact⟨h0,vs,key h1,h2.mono fun u s h=>key h⟩
theorem Shr.le{B B':Nat}{w:World}{v:Value}{ls:List (List Int)}(h:Shr B w v ls)(hB:B'<=B):Shr B' w v ls:=by
 obtain⟨h0,vs,h1,h2⟩:=h;exact⟨h0,vs,Z05 h1 hB,h2.mono fun u s h=>OwnI.le h hB⟩
theorem BelowX.of_ext{B ib:Nat}{a b c:World}(h:BelowX B ib a b)(hE:Ext b c)(hB:B<=b.heap.size):BelowX B ib a c:=
 h.trans (Z15 hE hB)
theorem ZbY(a b c m:Int)(base:Option Addr)(n cap:Nat)(L:List Sf)(w:World)(A3:L.length=n)(hn:n<=20)(hM:Meas w)(hS:RawA w base L):
 Calls prog 37 #[.agg #[.int .i64 a,.int .i64 b,.int .i64 c,.int .i64 m,.slice base n cap]] w fun e w'=>∃v1 v2,e= .returned (.tuple #[v1,v2,.int .i64 (Zo a b c m L [])])/\Shr w.heap.size w' v1 (Z66 a b c m L)/\OwnI w.heap.size w' v2 (Z6T a b c m L)/\Ext w w':=by
 have ho:=fun W hW=>Z3c a b c m base n cap L none 0 0 [] W A3 hn rfl (by omega) (hM.ext hW) (hS.ext hW) (fun i x hx=>by simp at hx)
 by_cases h:Zo a b c m L []=0
 ·obtain⟨hG,_,Lz,hm⟩:=Z1n h;have Nf:Z66 a b c m L=Zk (Zt a b c L n (fun _=>false) m.toNat [] 0) n 0 (fun _=>false):=by rw[Z66,if_pos h,A3]
  have A0:Z6T a b c m L=Z32 n (Z66 a b c m L):=by rw[Z6T,if_pos h,A3]
  have B9:=fun W hW=>Z65 a b c m base n cap L (fun _=>false) W hG A3 (by omega) hm (hM.ext hW) (hS.ext hW)
  have B8:∀l∈Zk (Zt a b c L n (fun _=>false) m.toNat [] 0) n 0 (fun _=>false),(∀p∈l,0<=p/\p<(n:Int))/\l.length=m.toNat:=fun l hl=>by
   have:=Z2A a b c L n (fun _=>false) m.toNat [] 0 l (Z3O _ _ _ l hl) (by simp) List.Pairwise.nil;exact⟨this.2.1,by simpa using this.2.2⟩
  have hSl:=Z2C (Zt a b c L n (fun _=>false) m.toNat [] 0) n 0 (fun _=>false);rw[A0,Nf];rw[h] at ho⊢;generalize Zk (Zt a b c L n (fun _=>false) m.toNat [] 0) n 0 (fun _=>false)=S at B9 B8 hSl⊢;simp only[Zs] at B9;clear Nf A0 h;go_enter func37,ntmps37
  go_wp2_with (first
   |(go_at_call 86;refine(ho _ (by(repeat (with_reducible first|assumption|exact Ext.rfl' _|apply Ext.alloc|apply Ext.drew)))).mono ?_;rintro e w2 ⟨rfl,A8⟩
     have Av:Ext w w2:=Ext.trans (by(repeat (with_reducible first|assumption|exact Ext.rfl' _|apply Ext.alloc|apply Ext.drew))) A8;have Ho:w2.heap[w.heap.size]? =some (.cells #[.int .i64 a,.int .i64 b,.int .i64 c,.int .i64 m,.slice base n cap] 26):=A8.get (by simp only[Z3,Z2];exact if_pos trivial))
   |(go_at_call 100;refine(B9 _ (by(repeat (with_reducible first|assumption|exact Ext.rfl' _|apply Ext.alloc|apply Ext.drew)))).mono ?_;rintro e w3 ⟨v,rfl,Tf,Ar⟩
     obtain⟨ao,cp,rfl⟩:=Tf.form;have B4:Ext w w3:=Ext.trans (by(repeat (with_reducible first|assumption|exact Ext.rfl' _|apply Ext.alloc|apply Ext.drew))) Ar;have Ac:=((Ext.rfl' w2).alloc _).alloc _ |>.trans Ar |>.get Ho
     have Pu:w3.heap[w2.heap.size+1]? =some (.cells (Zs (inL (S.take 0))) 138):=Ar.get (by simp only[Z3,Z2];exact if_pos trivial);simp only[Z2] at Tf))
  have Yf:=Z5 Pu;clear ho B9 A8 Ar;have Tg:=Z0 Ac 4;simp only[YC,YA,YB] at Tg;go_loopw [2,24] (fun v2 v24 wr=>∃j,j<=S.length/\v24= .int .i64 j/\BelowX w3.heap.size (w2.heap.size+1) w3 wr/\wr.heap[w2.heap.size+1]? =some (.cells (Zs (inL (S.take j))) 138)/\Shr w3.heap.size wr v2 (S.take j)) (fun _ v24 _=>S.length - (intOf v24).toNat)
  case atStart=>exact⟨0,Nat.zero_le _,rfl,BelowX.refl _ _ _,Pu,Shr.nil _ _⟩
  case round=>
   obtain⟨j,hj,rfl,hX,hi,I6⟩:=hrel;clear Pu;by_cases Io:j=S.length
   ·subst Io;rw[List.take_length] at hi I6;have E6:wr.cell? ⟨w.heap.size,4,none⟩=some (.slice base n cap):=by
     rw[<-Tg];simp only[World.cell?,hX.block w.heap.size (Z5 Ac) (by have:=Av.size;omega)]
    have D0:=hX.size;go_wp2;obtain⟨wo,rfl⟩:∃wo:World,wo=wr:=⟨_,rfl⟩;go_loopw [3,46] (fun v3 v46 wz=>∃i:Nat,i<=n/\v46= .int .i64 i/\Ext wo wz/\OwnI wo.heap.size wz v3 (Z32 i S)) (fun _ v46 _=>n - (intOf v46).toNat)
    case atStart=>exact⟨0,Nat.zero_le _,rfl,Ext.rfl' _,World.ownsRow_nil _ _ _ _⟩
    case round=>
     obtain⟨i,Aw,rfl,Qc,Ak⟩:=hrel;by_cases D9:i=n
     ·subst D9;go_wp2;refine bodyPost_ret (results_tmp3 rfl _ _ _) rfl ?_;refine⟨_,_,rfl,(I6.ext Qc).le (by have:=B4.size;omega),Ak.le (by have:=B4.size;omega),?_⟩;exact(BelowX.ext hX B4 (by have:=Av.size;omega) B4.size).trans Qc
     ·have A4:i<n:=(by omega);have Us:=Z0 (Qc.get hi) i;rw[Z1u _ i (by omega)] at Us;have Cd:(0:Int)<=(i:Int):=(by omega);have hi9:(i:Int)<9:=(by omega);have hiL:(i:Int)<(n:Int):=(by omega);have Cu:=Zaq i S;have hsz2:=Qc.size;have Jy:=Z8C S i;cases hb:inL S i with
      |true=>
       rw[hb] at Us Jy;rw[if_pos rfl] at Jy;rw[<-Jy] at Ak;clear Jy Cu;go_wp2;exact⟨⟨i+1,by omega,by push_cast;rfl,Qc,Ak⟩,by simp[intOf];omega⟩
      |false=>
       rw[hb] at Us Jy;rw[if_neg (by decide)] at Jy;have Yg:Hid (Z32 (i+1) S=Z32 i S++[(i:Int)]):=Jy;clear Jy
       go_wp2_with (
        at_builtin
        refine wpList_append_own _ rfl _ _ _ rfl wo.heap.size 3 Tryz.t3 (.int .i64 0) 1 8 Go.Proofs.Tryq.u27 i3 t3z t3s t3b rfl (by omega) _ _ _ rfl (Ak.alloc _) ⟨wr.heap.size,0,none⟩ 1 1 [.int .i64 i] rfl rfl (Z1N _ _ _) (by intro u hu;simp at hu;subst hu;rfl) (by simp[maxLen];omega) (by omega) (by simp;omega) ?_;intro v' w5 H2 F5 _;have Dm:Ext wo w5:=(Qc.alloc _).grown F5 (fun k hk=>(Ak.lt k hk).1))
       exact⟨⟨i+1,by omega,by push_cast;rfl,Dm,by rw[Yg.out];simpa[OwnI] using H2⟩,by simp[intOf];omega⟩
   ·have Cp:j<S.length:=(by omega);obtain⟨l,hl⟩:∃l,S[j]? =some l:=⟨_,YH Cp⟩;obtain⟨Q1,Vb⟩:=B8 l (YQ hl);have I0:0<l.length:=(by omega);have K7:l.length<=9:=(by omega);clear Vb;obtain⟨gr,cr,gl,cl,Sy,Sz,Kz,Lb,Er,T0,Jb,Df⟩:=Zdw Tf hl (by rintro rfl;simp at I0);obtain⟨rfl,rfl⟩:ao=some ⟨gr,0,none⟩/\cp=cr:=(by simpa using Sy);replace Lb:wr.cell? ⟨gr,j,none⟩=some (.slice (some ⟨gl,0,none⟩) l.length cl):=by
     rw[<-Lb];simp only[World.cell?,hX.block gr Kz (by omega)]
    have I5:∀W,Ext wr W->∀(j:Nat) u,(l.map (Value.int .i64))[j]? =some u->W.cell? ⟨gl,j,none⟩=some u:=by
     intro W hW j u hu;have:=Er.cells (g:=gl) rfl j u hu;rw[Z0c] at this;refine hW.cellS ?_;rw[<-this];simp only[World.cell?,hX.block gl Jb (by omega)]
    have Jh:=fun W hW=>Z60 gl l.length cl l W rfl I0 (by omega) Df (by have:=hX.size;have:=(hW:Ext wr W).size;omega) (I5 W hW)
    obtain⟨a2,c2,rfl⟩:=I6.form;have Ot:=I6;obtain⟨Q5,vs,Ee,I7⟩:=I6;have htl:(S.take j).length=j:=(by rw[List.length_take];omega);have La:=I7.length;rw[La] at Ee;rw[htl] at Ee Q5 La Ot⊢;have hj0:(0:Int)<=(j:Int):=(by omega);have hjL:(j:Int)<(S.length:Int):=by omega
    go_wp2_with (first
     |(go_at_call 101;refine(Jh _ (by(repeat (with_reducible first|assumption|exact Ext.rfl' _|apply Ext.alloc|apply Ext.drew)))).mono ?_;rintro e w4 ⟨g',cap',rfl,ho4,Ar⟩)
     |(at_builtin
       refine wpList_append_own _ rfl _ _ _ rfl w3.heap.size 27 Tryz.t27 (.slice none 0 0) 1 24 u57 i27 t27z t27s t27b rfl (by omega) (.slice a2 j c2) _ _ rfl ((Z00 Ee Ar).alloc _) ⟨w4.heap.size,0,none⟩ 1 1 [.slice (some ⟨g',0,none⟩) l.length cap'] rfl rfl (Z1N _ _ _) (by intro u hu;rw[List.mem_singleton.1 hu];rfl) (by simp[maxLen];omega) (by omega) (by simp only[Z2];have:=Ar.size;have:=hX.size;omega) ?_;intro v' w5 H2 F5 _))
    have Hq:(w4.alloc (.cells #[.slice (some ⟨g',0,none⟩) l.length cap'] 27)).grownBy w5 (Value.ownBlock (.slice a2 j c2)):=F5;clear F5;have Th:Shr w3.heap.size (w4.alloc (.cells #[.slice (some ⟨g',0,none⟩) l.length cap'] 27)) (.slice a2 j c2) (S.take j):=(Ot.ext Ar).ext ((Ext.rfl' w4).alloc _);have Wl:=hX.size;have Me:=Ar.size;have Ti:BelowX w3.heap.size (w2.heap.size+1) w3 w5:=by
     refine(hX.of_ext (Ar.alloc (.cells #[.slice (some ⟨g',0,none⟩) l.length cap'] 27)) hX.size).trans ⟨Hq.os,Hq.tape,Hq.output,Hq.size,fun k hk _=>Hq.block k (by simp only[Z2];omega) (fun e=>by have:=(Th.lt e.symm).1;omega)⟩
    have hi5:w5.heap[w2.heap.size+1]? =some (.cells (Zs (inL (S.take j))) 138):=(Hq.block _ (by simp only[Z2];omega) (fun e=>by have:=(Th.lt e.symm).1;omega)).trans (((Ar.alloc _).get hi));have Ya:Shr w3.heap.size w5 v' (S.take (j+1)):=by
     rw[Z0G hl];refine⟨fun h=>by simp at h,vs++[.slice (some ⟨g',0,none⟩) l.length cap'],by simpa[La] using H2,Each.append (I7.mono fun u s h=>OwnI.grownRow (OwnI.ext (OwnI.ext h Ar) ((Ext.rfl' w4).alloc _)) Th Hq) ⟨OwnI.grownRow (OwnI.ext (OwnI.le ho4 Wl) ((Ext.rfl' w4).alloc _)) Th Hq,trivial⟩⟩
    clear Hq Th Ee I7 La Q5 Ot H2 ho4 Lb I5 Jh;obtain⟨wo,rfl⟩:∃wo:World,wo=wr:=⟨_,rfl⟩;go_loopw [35] (fun v35 wz=>∃k:Nat,k<=l.length/\v35= .int .i64 k/\BelowX w5.heap.size (w2.heap.size+1) w5 wz/\wz.heap[w2.heap.size+1]? =some (.cells (Zs (fun i=>inL (S.take j) i||(l.take k).contains (i:Int))) 138)) (fun v35 _=>l.length - (intOf v35).toNat)
    case atStart=>exact⟨0,Nat.zero_le _,rfl,BelowX.refl _ _ _,by rw[hi5,Z1o];intro i _;simp⟩
    case round=>
     obtain⟨k,hk,rfl,Mk,Tj⟩:=hrel;by_cases F0:k=l.length
     ·subst F0;rw[List.take_length] at Tj;have Yh:wr.heap[w2.heap.size+1]? =some (.cells (Zs (inL (S.take (j+1)))) 138):=by
       rw[Tj,Z1o];intro i _;rw[Z0G hl,ZbX]
      have hXf:BelowX w3.heap.size (w2.heap.size+1) w3 wr:=Ti.trans ⟨Mk.os,Mk.tape,Mk.output,by have:=Mk.size;have:=Ti.size;omega,fun k hk A9=>Mk.block k (by have:=Ti.size;omega) A9⟩;have hSf:=Ya.belowX Mk Yf;go_wp2;exact⟨⟨j+1,by omega,by push_cast;rfl,hXf,Yh,hSf⟩,by simp[intOf];omega⟩
     ·obtain⟨p,hp⟩:∃p,l[k]? =some p:=⟨_,YH (by omega)⟩;have O8:=Q1 p (YQ hp);obtain⟨q,rfl⟩:=Int.eq_ofNat_of_zero_le O8.1;have Mg:q<9:=(by omega);have Kx:=Er.cells (g:=gl) rfl k (.int .i64 q) (by rw[List.getElem?_map,hp];rfl);rw[Z0c] at Kx;replace Kx:wr.cell? ⟨gl,k,none⟩=some (.int .i64 q):=by
       rw[<-Kx];simp only[World.cell?,Mk.block gl (by have:=Ti.size;omega) (by omega),Ti.block gl Jb (by omega)]
      have hfq:=Z8 Tj q;have Qa:=Z0 Tj q;rw[Z1u _ q Mg] at Qa;generalize (inL (S.take j) q||(l.take k).contains (q:Int))=bq at Qa;have Y4:(0:Int)<=(k:Int):=(by omega);have hkL:(k:Int)<(l.length:Int):=(by omega);have R9:(0:Int)<=(q:Int):=(by omega);have Y5:(q:Int)<9:=(by omega);go_wp2;have hA:=Go.Conc.aside_setCell wr ⟨w2.heap.size+1,q,none⟩ (.bool true);refine⟨⟨k+1,by omega,by push_cast;rfl,Mk.trans ⟨hA.os,hA.tape,hA.output,by rw[hA.size];exact Nat.le_refl _,fun b _ A9=>hA.block b A9⟩,?_⟩,by simp[intOf];omega⟩;rw[Zb Tj,Z52 _ q Mg,Z1o];intro i _;have e9:(i==q)=decide ((i:Int)=(q:Int)):=(by rw[Bool.eq_iff_iff];simp;omega);rw[Z0G hp,e9];simp[Bool.or_assoc]
 ·have Nf:Z66 a b c m L=[]:=by rw[Z66,if_neg h]
  have A0:Z6T a b c m L=[]:=by rw[Z6T,if_neg h]
  have A9:(Zo a b c m L [] !=0)=true:=by simpa using h
  rw[Nf,A0];generalize Zo a b c m L []=f at ho A9⊢;go_enter func37,ntmps37
  go_wp2_with (
   go_at_call 86;refine(ho _ (by(repeat (with_reducible first|assumption|exact Ext.rfl' _|apply Ext.alloc|apply Ext.drew)))).mono ?_;rintro e w2 ⟨rfl,A8⟩
   have Av:Ext w w2:=Ext.trans (by(repeat (with_reducible first|assumption|exact Ext.rfl' _|apply Ext.alloc|apply Ext.drew))) A8)
  refine bodyPost_ret (results_tmp3 rfl _ _ _) rfl ?_;exact⟨_,_,rfl,Shr.nil _ _,World.ownsRow_nil _ _ _ _,Av.alloc _⟩
end Go.Proofs.Tryq
namespace Go.Proofs.Tryq
set_option maxRecDepth 100000
set_option maxHeartbeats 2000000
open Go Go.Nk Go.RowKit
theorem Z3P(a b:Int)(w:World):Calls prog 34 #[.int .i64 a,.int .i64 b] w fun e w'=>e= .returned (.agg #[.int .i64 a,.int .i64 b])/\Ext w w':=by
 go_enter func34,ntmps34;go_wp2;refine bodyPost_ret (v:= .agg #[.int .i64 a,.int .i64 b]) ((Z07 rfl _ _ _).trans ?_) rfl ⟨rfl,(Ext.rfl' w).alloc _⟩;simp[go_sem]
theorem ZP{a b:Bool}(h:a=b):Ending.returned (.bool a)=Ending.returned (.bool b):=by rw[h]
theorem Z1Z{α:Type}{l:List α}{n:Nat}(h:l.length=n):l.drop n=[]:=by rw[<-h,List.drop_length]
theorem Z54{α:Type}[DecidableEq α]{l k:List α}{i:Nat}{x y:α}(hx:l[i]? =some x)(hy:k[i]? =some y):decide (l.drop i=k.drop i)=(decide (x=y)&&decide (l.drop (i+1)=k.drop (i+1))):=by
 rw[Z0b hx,Z0b hy,Bool.eq_iff_iff];simp
theorem Z1d(a1:Option Addr)(n1 c1:Nat)(l:List Int)(a2:Option Addr)(n2 c2:Nat)(k:List Int)(w:World)(h1:l.length=n1)(h2:k.length=n2)(hb:n1<=1000000/\n2<=1000000)(hl:RawI w a1 l)(hk:RawI w a2 k):
 Calls prog 58 #[.slice a1 n1 c1,.slice a2 n2 c2] w fun e w'=>e= .returned (.bool (decide (l=k)))/\Ext w w':=by
 by_cases hn:n1=n2
 ·have H:Hid (decide (l=k)=decide (l.drop 0=k.drop 0)):=rfl;subst hn;obtain⟨n,hn⟩:∃n,n=n1:=⟨_,rfl⟩;subst hn;go_enter func58,ntmps58;go_wp2;go_loopw [5] (fun v wr=>∃i:Nat,i<=n/\v= .int .i64 i/\Ext w wr/\Hid (decide (l=k)=decide (l.drop i=k.drop i))) (fun v _=>n - (intOf v).toNat)
  case atStart=>exact⟨0,Nat.zero_le _,rfl,Ext.rfl' w,H⟩
  case round=>
   obtain⟨i,hi,rfl,hE,hH⟩:=hrel;clear H;by_cases Aw:i=n
   ·subst Aw;have hz:decide (l=k)=true:=(by rw[hH.out,Z1Z h1,Z1Z h2];rfl);go_wp2;go_ret;exact⟨ZP (a:=true) hz.symm,hE⟩
   ·have A4:i<n:=(by omega);obtain⟨x,hx⟩:∃x,l[i]? =some x:=⟨_,YH (by omega)⟩;obtain⟨y,hy⟩:∃y,k[i]? =some y:=⟨_,YH (by omega)⟩;obtain⟨ba,oa,rfl,Pg,Fj⟩:=(hl.ext hE) i x hx;obtain⟨bb,ob,rfl,Ru,hyb⟩:=(hk.ext hE) i y hy;go_wp2_with fail;have gz0:=Zet Fj;have gz1:=Zet hyb;refine ZeG 9 (by kernel_rfl) ?_;refine ZeB [0,1,2,3,4,5,6,7,8] (by kernel_rfl) (by kernel_rfl) ?_;simp only[ZeD,YB,YA,YK,YJ]
    repeat (go_big_quiet_step (fail))
    refine wpQuiet_nil ?_;refine Zf6 (by kernel_rfl) (fun W hW=> ?_);have Ba:=hW;clear gz0 gz1;have Bw:=hE.trans Ba;by_cases C5:x=y
    ·have hb:(x !=y)=false:=(by simpa using C5);have El:Hid (decide (l=k)=decide (l.drop (i+1)=k.drop (i+1))):=(by show _=_;rw[hH.out,Z54 hx hy,decide_eq_true C5,Bool.true_and]);rw[hb];clear hb;go_wp2;go_roundw
     case rel=>exact⟨i+1,by omega,by push_cast;rfl,Bw,El⟩
     case measure=>simp[intOf];omega
    ·have hb:(x !=y)=true:=(by simpa using C5);have El:decide (l=k)=false:=(by rw[hH.out,Z54 hx hy,decide_eq_false C5,Bool.false_and]);rw[hb];clear hb;go_wp2;go_ret;exact⟨ZP (a:=false) El.symm,Bw⟩
 ·have hz:decide (l=k)=false:=decide_eq_false fun h=>hn (by rw[<-h1,<-h2,h])
  have hnn:¬(n1:Int)=(n2:Int):=by omega
  go_enter func58,ntmps58;go_wp2;go_ret;exact⟨ZP (a:=false) hz.symm,Ext.rfl' w⟩
def RawL(w:World)(base:Option Addr)(ls:List (List Int)):Prop:=∀(i:Nat)(l:List Int),ls[i]? =some l->∃b off ad cp,base=some ⟨b,off,none⟩/\b<w.heap.size/\w.cell? ⟨b,off+i,none⟩=some (.slice ad l.length cp)/\l.length<=1000000/\RawI w ad l
theorem RawL.ext{w w':World}{base:Option Addr}{ls:List (List Int)}(h:RawL w base ls)(e:Ext w w'):RawL w' base ls:=by
 intro i l hi;obtain⟨b,off,ad,cp,h1,h2,h3,h4,h5⟩:=h i l hi;exact⟨b,off,ad,cp,h1,e.lt h2,e.cellS h3,h4,h5.ext e⟩
theorem OwnI.rawI{b:Nat}{w:World}{v:Value}{l:List Int}(h:OwnI b w v l):∃ao cp,v= .slice ao l.length cp/\RawI w ao l/\l.length<=cp:=by
 by_cases h0:l=[]
 ·subst h0;rcases h.2 with⟨rfl,_⟩|⟨g,cp,_,rfl,_⟩
  ·exact⟨none,0,rfl,fun i x hx=>by simp at hx,Nat.zero_le _⟩
  ·exact⟨_,cp,rfl,fun i x hx=>by simp at hx,Nat.zero_le _⟩
 ·rcases h.2 with⟨rfl,hz⟩|⟨g,cp,cur,rfl,hb,hg,Df,hr⟩
  ·simp at hz;exact absurd hz h0
  ·exact⟨_,cp,rfl,OwnI.raw (b:=b) ⟨h.1,.inr ⟨g,cp,cur,rfl,hb,hg,Df,hr⟩⟩,Df⟩
theorem Shr.rawL{b:Nat}{w:World}{v:Value}{ls:List (List Int)}(h:Shr b w v ls)(hb:∀l∈ls,l.length<=1000000):∃ao cp,v= .slice ao ls.length cp/\RawL w ao ls:=by
 obtain⟨ao,cp,rfl⟩:=h.form;refine⟨ao,cp,rfl,fun i l hl=> ?_⟩;obtain⟨_,vs,h1,h2⟩:=h;have A3:=h2.length;have hi:=(YI.1 hl).1;obtain⟨g,cr,he,_,hg⟩:=h1.form (by omega);obtain⟨rfl,_⟩:ao=some ⟨g,0,none⟩/\_:=by simpa using he
 obtain⟨u,hu,Er⟩:=h2.get i l hl;have hc:=h1.cells (g:=g) rfl i u hu;rw[Z0c] at hc;obtain⟨ad,cu,rfl,hr,_⟩:=Er.rawI;exact⟨g,0,ad,cu,rfl,hg,by rw[Nat.zero_add];exact hc,hb l (YQ hl),hr⟩
theorem Z55(a1:Option Addr)(n1 c1:Nat)(l:List (List Int))(a2:Option Addr)(n2 c2:Nat)(k:List (List Int))(w:World)(h1:l.length=n1)(h2:k.length=n2)(hb:n1<=1000000/\n2<=1000000)(hl:RawL w a1 l)(hk:RawL w a2 k):
 Calls prog 56 #[.slice a1 n1 c1,.slice a2 n2 c2] w fun e w'=>e= .returned (.bool (decide (l=k)))/\Ext w w':=by
 by_cases hn:n1=n2
 ·have H:Hid (decide (l=k)=decide (l.drop 0=k.drop 0)):=rfl;subst hn;obtain⟨n,hn⟩:∃n,n=n1:=⟨_,rfl⟩;subst hn;go_enter func56,ntmps56;go_wp2;go_loopw [5] (fun v wr=>∃i:Nat,i<=n/\v= .int .i64 i/\Ext w wr/\Hid (decide (l=k)=decide (l.drop i=k.drop i))) (fun v _=>n - (intOf v).toNat)
  case atStart=>exact⟨0,Nat.zero_le _,rfl,Ext.rfl' w,H⟩
  case round=>
   obtain⟨i,hi,rfl,hE,hH⟩:=hrel;clear H;by_cases Aw:i=n
   ·subst Aw;have hz:decide (l=k)=true:=(by rw[hH.out,Z1Z h1,Z1Z h2];rfl);go_wp2;go_ret;exact⟨ZP (a:=true) hz.symm,hE⟩
   ·have A4:i<n:=(by omega);obtain⟨x,hx⟩:∃x,l[i]? =some x:=⟨_,YH (by omega)⟩;obtain⟨y,hy⟩:∃y,k[i]? =some y:=⟨_,YH (by omega)⟩;obtain⟨ba,oa,ax,cx,rfl,Pg,Fj,hxn,hxr⟩:=(hl.ext hE) i x hx;obtain⟨bb,ob,ay,cy,rfl,Ru,hyb,hyn,hyr⟩:=(hk.ext hE) i y hy;go_wp2_with fail;have gz0:=Zet Fj;have gz1:=Zet hyb;refine ZeG 10 (by kernel_rfl) ?_;refine ZeB [0,1,2,3,4,5,6,7] (by kernel_rfl) (by kernel_rfl) ?_;simp only[ZeD,YB,YA,YK,YJ]
    repeat (go_big_quiet_step (fail))
    refine wpQuiet_nil ?_;refine ZeX 8 (f:=58) (args:= #[.slice ax x.length cx,.slice ay y.length cy]) (v:= .bool (decide (x=y))) (by kernel_rfl) rfl (by kernel_rfl) rfl (fun W=>by simp[go_sem,execOp,Act.eval]) (fun W hW=>Z1d ax x.length cx x ay y.length cy y _ rfl rfl ⟨hxn,hyn⟩ (hxr.ext hW) (hyr.ext hW)) ?_;go_simp;refine ZeB [9] (by kernel_rfl) (by kernel_rfl) ?_;simp only[ZeD,YB,YA,YK,YJ]
    repeat (go_big_quiet_step (fail))
    refine wpQuiet_nil ?_;refine Zf6 (by kernel_rfl) (fun W hW=> ?_);have Ba:=hW;clear gz0 gz1;have Bw:=hE.trans Ba;by_cases C5:x=y
    ·have hb:(!decide (x=y))=false:=(by simpa using C5);have El:Hid (decide (l=k)=decide (l.drop (i+1)=k.drop (i+1))):=(by show _=_;rw[hH.out,Z54 hx hy,decide_eq_true C5,Bool.true_and]);rw[hb];clear hb;go_wp2;go_roundw
     case rel=>exact⟨i+1,by omega,by push_cast;rfl,Bw,El⟩
     case measure=>simp[intOf];omega
    ·have hb:(!decide (x=y))=true:=(by simpa using C5);have El:decide (l=k)=false:=(by rw[hH.out,Z54 hx hy,decide_eq_false C5,Bool.false_and]);rw[hb];clear hb;go_wp2;go_ret;exact⟨ZP (a:=false) El.symm,Bw⟩
 ·have hz:decide (l=k)=false:=decide_eq_false fun h=>hn (by rw[<-h1,<-h2,h])
  have hnn:¬(n1:Int)=(n2:Int):=by omega
  go_enter func56,ntmps56;go_wp2;go_ret;exact⟨ZP (a:=false) hz.symm,Ext.rfl' w⟩
end Go.Proofs.Tryq
namespace Go.Nk
open Go Go.Region
open Go.Proofs.Tryq (Ext Z3 Z2)
variable {P:Program} {ops:Array Oper} {Q:Exit->Act->World->Prop}
variable {n:Nat} {Dl:List (Option Tmp)} {S:List (Option Value)} {L0:Tmp->Value} {M:(Nat->Bool)->(Tmp->Value)->World->Prop} {ℓ:Nat->Bool} {a:Act} {w w':World} {i:Nat} {o:Oper}
end Go.Nk
namespace Go.Proofs.Tryq
set_option maxRecDepth 100000
open Go Go.Nk Go.RowKit
theorem Z4r(n lo hi:Int)(w:World):Calls prog 93 #[.int .i64 n,.int .i64 lo,.int .i64 hi] w fun e w'=>e= .returned (.bool (decide (lo<=n/\n<=hi)))/\w'=w:=by
 by_cases h1:lo<=n
 ·by_cases h2:n<=hi
  ·go_enter func93,ntmps93;go_wp2;go_ret;exact⟨ZP (a:=true) (by rw[Bool.eq_iff_iff];simp<;>omega),rfl⟩
  ·go_enter func93,ntmps93;go_wp2;go_ret;exact⟨ZP (a:=false) (by rw[Bool.eq_iff_iff];simp<;>omega),rfl⟩
 ·go_enter func93,ntmps93;go_wp2;go_ret;exact⟨ZP (a:=false) (by rw[Bool.eq_iff_iff];simp<;>omega),rfl⟩
def inR(n lo hi:Int):Bool:=decide (lo<=n/\n<=hi)
theorem in_r(n lo hi:Int)(w:World):Calls prog 93 #[.int .i64 n,.int .i64 lo,.int .i64 hi] w fun e w'=>e= .returned (.bool (inR n lo hi))/\w'=w:=Z4r n lo hi w
theorem Z2e(a b lo hi:Int)(w:World):Calls prog 95 #[.agg #[.int .i64 a,.int .i64 b],.int .i64 lo,.int .i64 hi] w fun e w'=>e= .returned (.bool (decide (lo<=a/\a<=b/\b<=hi)))/\Ext w w':=by
 have hr:=fun n w=>in_r n lo hi w
 have H:Hid (decide (lo<=a/\a<=b/\b<=hi)=(inR a lo hi&&(inR b lo hi&&decide (a<=b)))):=by
  show _=_;simp only[inR];rw[Bool.eq_iff_iff];simp;omega
 cases h1:inR a lo hi with
 |false=>
  have E9:=hr a;simp only[h1] at E9;rw[h1] at H;go_enter func95,ntmps95;go_wp2_with (go_at_call 93;(with_reducible refine(E9 _).mono ?_);rintro e w2 ⟨rfl,rfl⟩);go_ret;exact⟨ZP (a:=false) (by rw[H.out];simp),(Ext.rfl' w).alloc _⟩
 |true=>
  have E9:=hr a;simp only[h1] at E9;rw[h1] at H;cases h2:inR b lo hi with
  |false=>
   have Dz:=hr b;simp only[h2] at Dz;rw[h2] at H;go_enter func95,ntmps95;go_wp2_with (first|(go_at_call 93;(with_reducible refine(E9 _).mono ?_);rintro e w2 ⟨rfl,rfl⟩)|(go_at_call 93;(with_reducible refine(Dz _).mono ?_);rintro e w2 ⟨rfl,rfl⟩));go_ret;exact⟨ZP (a:=false) (by rw[H.out];simp),(Ext.rfl' w).alloc _⟩
  |true=>
   have Dz:=hr b;simp only[h2] at Dz;rw[h2] at H;go_enter func95,ntmps95;go_wp2_with (first|(go_at_call 93;(with_reducible refine(E9 _).mono ?_);rintro e w2 ⟨rfl,rfl⟩)|(go_at_call 93;(with_reducible refine(Dz _).mono ?_);rintro e w2 ⟨rfl,rfl⟩));go_ret;exact⟨ZP (a:=decide (a<=b)) (by rw[H.out];simp),(Ext.rfl' w).alloc _⟩
theorem Z4s(c:UInt8)(w:World):Calls prog 139 #[.int .u8 c.toNat] w fun e w'=>e= .returned (.bool (Z8N c.toNat))/\w'=w:=by
 by_cases h1:(97:Int)<=c.toNat
 ·by_cases h2:(c.toNat:Int)<=122
  ·go_enter func139,ntmps139;go_wp2;go_ret;exact⟨ZP (a:=true) (decide_eq_true (by omega)).symm,rfl⟩
  ·go_enter func139,ntmps139;go_wp2;go_ret;exact⟨ZP (a:=false) (decide_eq_false (by omega)).symm,rfl⟩
 ·go_enter func139,ntmps139;go_wp2;go_ret;exact⟨ZP (a:=false) (decide_eq_false (by omega)).symm,rfl⟩
theorem ZaO(c:UInt8)(w:World):Calls prog 140 #[.int .u8 c.toNat] w fun e w'=>e= .returned (.bool (Ze0 c.toNat))/\w'=w:=by
 by_cases h1:(48:Int)<=c.toNat
 ·by_cases h2:(c.toNat:Int)<=57
  ·go_enter func140,ntmps140;go_wp2;go_ret;exact⟨ZP (a:=true) (decide_eq_true (by omega)).symm,rfl⟩
  ·go_enter func140,ntmps140;go_wp2;go_ret;exact⟨ZP (a:=false) (decide_eq_false (by omega)).symm,rfl⟩
 ·go_enter func140,ntmps140;go_wp2;go_ret;exact⟨ZP (a:=false) (decide_eq_false (by omega)).symm,rfl⟩
end Go.Proofs.Tryq
namespace Go.Proofs.Tryq
set_option maxRecDepth 100000
set_option maxHeartbeats 2000000
open Go Go.Nk Go.RowKit
theorem Z70(s:ByteArray)(w:World)(hs:s.size<=maxLen):Calls prog 94 #[.string s] w fun e w'=>e= .returned (.bool (Z2d s))/\w'=w:=by
 unfold maxLen at hs;by_cases Az:1<=s.size/\s.size<=12
 ·have Cn:0<s.size:=by omega
  have hN:Z2d s=(Z8N (s[0].toNat:Int)&& !s.data.toList.any ZM):=by
   rw[Z2d,Z5A s Cn,decide_eq_true Az,Bool.true_and]
  rw[hN];clear hN;have K2:(0:Int)<=(s[0].toNat:Int):=by omega
  have B6:(s[0].toNat:Int)<256:=by have:=s[0].toNat_lt;omega
  have Cc:(1:Int)<=(s.size:Int):=by omega
  have Cw:(s.size:Int)<=12:=by omega
  clear Az;have D5:=fun w=>Z4r (s.size:Int) 1 12 w
  rw[decide_eq_true (show(1:Int)<=s.size/\(s.size:Int)<=12 from⟨Cc,Cw⟩)] at D5;have Bj:=fun w=>Z4s s[0] w
  cases hl:Z8N (s[0].toNat:Int) with
  |false=>
   rw[hl] at Bj;clear hl Cc Cw;go_enter func94,ntmps94
   go_wp2_with (first
    |(go_at_call 93;(with_reducible refine(D5 _).mono ?_);rintro e w ⟨rfl,rfl⟩)
    |(go_at_call 139;(with_reducible refine(Bj _).mono ?_);rintro e w ⟨rfl,rfl⟩))
   go_ret;exact⟨rfl,rfl⟩
  |true=>
   rw[hl] at Bj;rw[Bool.true_and];clear hl;have H:Hid ((s.data.toList.drop 0).any ZM=s.data.toList.any ZM):=rfl;go_enter func94,ntmps94
   go_wp2_with (first
    |(go_at_call 93;(with_reducible refine(D5 _).mono ?_);rintro e w ⟨rfl,rfl⟩)
    |(go_at_call 139;(with_reducible refine(Bj _).mono ?_);rintro e w ⟨rfl,rfl⟩))
   go_loopw [3] (fun v wr=>∃i:Nat,i<=s.size/\v= .int .i64 i/\wr=w/\Hid ((s.data.toList.drop i).any ZM=s.data.toList.any ZM)) (fun v _=>s.size - (intOf v).toNat)
   case atStart=>exact⟨0,Nat.zero_le _,rfl,rfl,H⟩
   case round=>
    obtain⟨i,hi,rfl,rfl,hH⟩:=hrel;clear H Bj D5;by_cases Aw:i=s.size
    ·have hz:s.data.toList.any ZM=false:=by
      rw[<-hH.out,List.drop_of_length_le (by rw[Array.length_toList];exact Nat.le_of_eq Aw.symm)];rfl
     clear hH;have F1:(i:Int)=(s.size:Int):=(by omega);go_wp2;go_ret;exact⟨ZP (a:=true) (by rw[hz];rfl),rfl⟩
    ·have A4:i<s.size:=(by omega);have hx:s.data.toList[i]? =some s[i]:=(by rw[Array.getElem?_toList];exact YN A4);have Ac:Hid (s.data.toList.any ZM=(ZM s[i]||(s.data.toList.drop (i+1)).any ZM)):=(by show _=_;rw[<-hH.out,Z0b hx,List.any_cons]);clear hH;have Bj:=fun w=>Z4s s[i] w
     have F8:=fun w=>ZaO s[i] w
     have Cd:(0:Int)<=(i:Int):=(by omega);have hiL:(i:Int)<(s.size:Int):=(by omega);have go_on:∀{v:Nat->Nat},ZM s[i]=false->Hid ((s.data.toList.drop (i+1)).any ZM=s.data.toList.any ZM):=fun hb=>by show _=_;rw[Ac.out,hb,Bool.false_or]
     have Bg:ZM s[i]=(!Z8N (s[i].toNat:Int)&& !Ze0 (s[i].toNat:Int)):=rfl;cases h1:Z8N (s[i].toNat:Int) with
     |true=>
      rw[h1] at Bj Bg;have hg:=go_on (v:=id) Bg;clear h1 go_on Bg Ac
      go_wp2_with (first
       |(go_at_call 139;(with_reducible refine(Bj _).mono ?_);rintro e w ⟨rfl,rfl⟩))
      exact⟨⟨i+1,by omega,by push_cast;rfl,trivial,hg⟩,by simp[intOf];omega⟩
     |false=>
      rw[h1] at Bj Bg;cases h2:Ze0 (s[i].toNat:Int) with
      |true=>
       rw[h2] at F8 Bg;have hg:=go_on (v:=id) Bg;clear h1 h2 go_on Bg Ac
       go_wp2_with (first
        |(go_at_call 139;(with_reducible refine(Bj _).mono ?_);rintro e w ⟨rfl,rfl⟩)
        |(go_at_call 140;(with_reducible refine(F8 _).mono ?_);rintro e w ⟨rfl,rfl⟩))
       exact⟨⟨i+1,by omega,by push_cast;rfl,trivial,hg⟩,by simp[intOf];omega⟩
      |false=>
       rw[h2] at F8 Bg;have hz:s.data.toList.any ZM=true:=(by rw[Ac.out,Bg];rfl);clear h1 h2 go_on Bg Ac
       go_wp2_with (first
        |(go_at_call 139;(with_reducible refine(Bj _).mono ?_);rintro e w ⟨rfl,rfl⟩)
        |(go_at_call 140;(with_reducible refine(F8 _).mono ?_);rintro e w ⟨rfl,rfl⟩))
       go_ret;exact⟨ZP (a:=false) (by rw[hz];rfl),rfl⟩
 ·have hN:Z2d s=false:=by rw[Z2d,decide_eq_false Az];rfl
  rw[hN];have hd:decide (1<=(s.size:Int)/\(s.size:Int)<=12)=false:=decide_eq_false (by omega);have C0:=fun w=>Z4r (s.size:Int) 1 12 w
  rw[hd] at C0;clear hN hd;go_enter func94,ntmps94
  go_wp2_with (first
   |(go_at_call 93;refine(C0 _).mono ?_;rintro e w ⟨rfl,rfl⟩))
  go_ret;exact⟨rfl,rfl⟩
end Go.Proofs.Tryq
namespace Go.Proofs.Tryq
open Go Go.Nk Go.RowKit
end Go.Proofs.Tryq
