import Derived.Test.YtedkbdkbbnemlaaGreatDoorNk23
set_option linter.all false
namespace Go.Proofs.Tryq
set_option maxRecDepth 100000
set_option maxHeartbeats 4000000
open Go Go.Nk Go.RowKit
open Go.Maps (Keyed)
open Go.ChangeMaps (setBlock)
theorem Zif{X:Nat->Prop}(w:World){b:Nat}(hx:X b)(o:Obj):ExtX X w (setBlock w b o):=
 ⟨by rw[Z2s];exact Nat.le_refl _,fun k _ hn=>Z0O (fun e=>hn (by rw[e];exact hx)) _,rfl,rfl,rfl⟩
theorem Z65(a b c m:Int)(base:Option Addr)(n cap:Nat)(L:List Sf)(out:Nat->Bool)(w:World)(hG:Good a b c L)(A2:L.length=n)(hn:n<=9)(hm:2<=m/\m<=4)(hM:Meas w)(hS:RawA w base L):
 Calls prog 100 #[.agg #[.int .i64 a,.int .i64 b,.int .i64 c,.int .i64 m,.slice base n cap],.agg (Zs out)] w fun e w'=>∃v,e= .returned v/\Shr w.heap.size w' v (Zk (Zt a b c L n out m.toNat [] 0) n 0 out)/\Ext w w':=by
 have H4:=fun W (hW:Ext w W)=>ZbU a b c m base n cap L out W hG A2 hn hm (hM.ext hW) (hS.ext hW)
 have Pd:∀l∈Zt a b c L n out m.toNat [] 0,l.Pairwise (·<·)/\(∀p∈l,0<=p/\p<(n:Int))/\l.length=m.toNat:=fun l hl=>by
  have:=Z2A a b c L n out m.toNat [] 0 l hl (by simp) List.Pairwise.nil;exact⟨this.1,this.2.1,by simpa using this.2.2⟩
 have Xq:(Zt a b c L n out m.toNat [] 0).length<=100000:=by
  refine Nat.le_trans (Z3L a b c L n out hn m.toNat [] 0) ?_;have:m.toNat=2\/m.toNat=3\/m.toNat=4:=by omega
  rcases this with h|h|h<;>rw[h]<;>decide
 have hTe:Z62 (Zt a b c L n out m.toNat [] 0):=Z6R a b c L n m.toNat out;generalize Zt a b c L n out m.toNat [] 0=T at H4 Pd Xq hTe⊢;have Pn:= @run_makeMap prog;simp only[Zs] at H4⊢;go_enter func100,ntmps100
 go_wp2_with (
  go_at_call 115;refine(H4 _ (((((Ext.rfl' w).alloc _).alloc _).alloc _).alloc _)).mono ?_;rintro e w2 ⟨v,vs,rfl,Em,I7,A5⟩
  have Ag:Ext w w2:=Ext.trans (((((Ext.rfl' w).alloc _).alloc _).alloc _).alloc _) A5;have g0:w2.heap[w.heap.size]? =some (.cells #[.int .i64 a,.int .i64 b,.int .i64 c,.int .i64 m,.slice base n cap] 120):=A5.get (by simp only[Z3,Z2];rw[if_neg (by omega),if_neg (by omega),if_neg (by omega),if_pos trivial]);have g1:w2.heap[w.heap.size+1]? =some (.cells (Zs out) 138):=A5.get (by simp only[Z3,Z2];rw[if_neg (by omega),if_neg (by omega),if_pos trivial];rfl);have g2:w2.heap[w.heap.size+1+1]? =some (.map #[] 0):=A5.get (by simp only[Z3,Z2];rw[if_neg (by omega),if_pos trivial]);have g3:w2.heap[w.heap.size+1+1+1]? =some (.cells #[.map (some (w.heap.size+1+1))] 182):=A5.get (by simp only[Z3,Z2];rw[if_pos trivial]);have O6:w.heap.size+4<=w2.heap.size:=by have:=A5.size;simp only[Z2] at this;omega
  replace Em:=Z05 Em (show w.heap.size<=_ by simp only[Z2];omega);replace I7:=I7.mono fun u s h=>OwnI.le h (show w.heap.size<=_ by simp only[Z2];omega)
  clear A5;obtain⟨ao,cp,rfl⟩:∃ao cp,v= .slice ao vs.length cp:=by
   rcases Em.2 with⟨rfl,h⟩|⟨g,cp,_,rfl,_⟩
   ·exact⟨none,0,by rw[h]⟩
   ·exact⟨_,cp,rfl⟩)
 clear H4 Pn;have La:=I7.length;rw[La] at Em⊢;obtain⟨B,hB⟩:∃B,B=w.heap.size:=⟨_,rfl⟩;rw[<-hB] at Em I7;have Ss:ByAt B w2.heap.size n (w.heap.size+1+1) (T.take 0) w2:=by
  refine⟨fun _=>none,⟨#[],0,g2,by simp,by simp,by simp,by simp⟩,fun i hi=>Shr.nil _ _,fun i j _ _ _=> .inl rfl,fun i hi k hk=>by cases hk⟩
 go_loopw [15] (fun v15 wr=>∃j:Nat,j<=T.length/\v15= .int .i64 j/\Map1 (w.heap.size+1+1) w2 wr/\ByAt B w2.heap.size n (w.heap.size+1+1) (T.take j) wr) (fun v15 _=>T.length - (intOf v15).toNat)
 case atStart=>exact⟨0,Nat.zero_le _,rfl,Map1.refl _ _,Ss⟩
 case round=>
  obtain⟨j,hj,rfl,hX,Y0⟩:=hrel;clear Ss;by_cases Il:j=T.length
  ·subst Il;rw[List.take_length] at Y0;obtain⟨G,Ct,Bp,_,_⟩:=Y0;have C6:Ext w wr:=BelowX.ext hX Ag (by omega) Ag.size;have hwsz:=hX.size;have g5:=(hX.block _ (Z5 g0) (by omega)).trans g0;have g6:=(hX.block _ (Z5 g1) (by omega)).trans g1;have g7:=(hX.block _ (Z5 g3) (by omega)).trans g3;have z0:=Z0 g6 0;have z1:=Z0 g6 1;have z2:=Z0 g6 2;have z3:=Z0 g6 3;have z4:=Z0 g6 4;have z5:=Z0 g6 5;have z6:=Z0 g6 6;have z7:=Z0 g6 7;have z8:=Z0 g6 8;simp only[Zs,List.getElem?_toArray,List.getElem?_cons_zero,List.getElem?_cons_succ] at z0 z1 z2 z3 z4 z5 z6 z7 z8
   have Co:∀W,W=(((wr.alloc (.map #[] 0)).alloc (.cells #[.map (some wr.heap.size)] 183)).alloc (.cells #[.func (.func 145) #[] #[.pointer (some ⟨w.heap.size,0,none⟩),.pointer (some ⟨wr.heap.size+1,0,none⟩),.pointer (some ⟨w.heap.size+1+1+1,0,none⟩),.pointer (some ⟨wr.heap.size+1+1,0,none⟩)]] 184))->
    Calls prog 145 #[.int .i64 0,.agg (Zs out),.pointer (some ⟨w.heap.size,0,none⟩),.pointer (some ⟨wr.heap.size+1,0,none⟩),.pointer (some ⟨w.heap.size+1+1+1,0,none⟩),.pointer (some ⟨wr.heap.size+1+1,0,none⟩)] W fun e W'=>∃v,e= .returned v/\Shr B W' v (Zk T n 0 out)/\Ext w W':=by
    intro W hW;have B4:Ext wr W:=(by rw[hW];exact(((Ext.rfl' wr).alloc _).alloc _).alloc _);have k0:W.heap[wr.heap.size]? =some (.map #[] 0):=(by rw[hW];simp only[Z3,Z2];rw[if_neg (by omega),if_neg (by omega),if_pos trivial]);have k1:W.heap[wr.heap.size+1]? =some (.cells #[.map (some wr.heap.size)] 183):=(by rw[hW];simp only[Z3,Z2];rw[if_neg (by omega),if_pos trivial]);have k2:W.heap[wr.heap.size+1+1]? =some (.cells #[.func (.func 145) #[] #[.pointer (some ⟨w.heap.size,0,none⟩),.pointer (some ⟨wr.heap.size+1,0,none⟩),.pointer (some ⟨w.heap.size+1+1+1,0,none⟩),.pointer (some ⟨wr.heap.size+1+1,0,none⟩)]] 184):=(by rw[hW];simp only[Z3,Z2];rw[if_pos trivial]);have Kk:MapAt prog 138 W wr.heap.size (fun _=>none):=⟨#[],0,k0,by simp,by simp,by simp,by simp⟩;have Hs:=Ct.lt
    refine(Z8B a b c m base n cap T B w.heap.size (wr.heap.size+1) (w.heap.size+1+1+1) (wr.heap.size+1+1) wr.heap.size (w.heap.size+1+1) hn hTe (by omega) (fun l hl=>⟨(Pd l hl).2.1,by rw[(Pd l hl).2.2];omega⟩) n 0 out W (fun _=>none) (by omega)
     ⟨B4.get g5,k1,B4.get g7,k2,⟨G,Ct.keep (B4.old _ Hs),fun i hi=>(Bp i hi).ext B4⟩,⟨by omega,by omega,by omega,by omega,by omega⟩,by have:=B4.size;omega⟩ ⟨Kk,fun key v hv=>by cases hv⟩).mono ?_
    rintro e W' ⟨v,G',rfl,hS',hK',hM'⟩;exact⟨v,rfl,hS',BelowX.ext hM' (C6.trans B4) C6.size (C6.trans B4).size⟩
   simp only[Zs] at Co;have Pn:= @run_makeMap prog;clear hX Bp Ct;have hl6:=Z5 g6;have P7:∀(o1 o2 o3:Obj)(k:Nat),(((wr.alloc o1).alloc o2).alloc o3).cell? ⟨w.heap.size+1,k,none⟩=wr.cell? ⟨w.heap.size+1,k,none⟩:=fun o1 o2 o3 k=>((((Ext.rfl' wr).alloc o1).alloc o2).alloc o3).cell hl6
   go_wp2_with (
    go_at_call 145;refine(Co _ rfl).mono ?_;rintro e w5 ⟨v,rfl,Y1,B6⟩)
   go_ret;exact⟨v,rfl,by rw[<-hB];exact Y1,B6⟩
  ·have Cb:j<T.length:=by omega
   have hjv:j<vs.length:=by omega
   obtain⟨l,hl⟩:∃l,T[j]? =some l:=⟨_,List.getElem?_eq_getElem Cb⟩;obtain⟨u,hu,Ci⟩:=I7.get j l hl;obtain⟨Su,Bc,I5⟩:=Pd l (List.mem_of_getElem? hl);obtain⟨gr,cr,Se,Sg,Kz⟩:=Em.form (by omega);obtain⟨rfl,rfl⟩:ao=some ⟨gr,0,none⟩/\cp=cr:=by simpa using Se
   have Do:=Em.cells (g:=gr) rfl j u hu;rw[Z0c] at Do;obtain⟨gl,cl,rfl,Si,J9⟩:=Ci.form (by omega);obtain⟨p,hp⟩:∃p,l[0]? =some p:=⟨_,List.getElem?_eq_getElem (by omega)⟩;have Kv:=Bc p (List.mem_of_getElem? hp);obtain⟨i,rfl⟩:=Int.eq_ofNat_of_zero_le Kv.1;have D2:=Ci.cells (g:=gl) rfl 0 (.int .i64 i) (by rw[List.getElem?_map,hp];rfl);rw[Z0c] at D2;have As:i<n:=by omega
   obtain⟨es2,ck2,Od⟩:∃es ck,w2.heap[w.heap.size+1+1]? =some (.map es ck):=⟨_,_,g2⟩;have Y3:gr≠w.heap.size+1+1:=by
    rintro rfl;obtain⟨_,⟨h,_⟩|⟨_,_,_,h,_,hc,_⟩⟩:=Em
    ·cases h
    ·cases h;rw[g2] at hc;cases hc
   have Sv:gl≠w.heap.size+1+1:=by
    rintro rfl;obtain⟨_,⟨h,_⟩|⟨_,_,_,h,_,hc,_⟩⟩:=Ci
    ·cases h
    ·cases h;rw[g2] at hc;cases hc
   have De:∀(q:Addr),q.block<w2.heap.size->q.block≠w.heap.size+1+1->wr.cell? q=w2.cell? q:=fun q h1 h2=>by simp only[World.cell?,hX.block _ h1 h2]
   replace Do:=(De ⟨gr,j,none⟩ Kz Y3).trans Do;have hlc:wr.drew.cell? ⟨gl,0,none⟩=some (.int .i64 i):=(De ⟨gl,0,none⟩ J9 Sv).trans D2;have hyc:wr.drew.cell? ⟨w.heap.size+1+1+1,0,none⟩=some (.map (some (w.heap.size+1+1))):=(De ⟨w.heap.size+1+1+1,0,none⟩ (Z5 g3) (by simp)).trans (by rw[Z0 g3];rfl);obtain⟨G,Ct,Bp,C5,Bb⟩:=Y0;have An:=Bp i As;obtain⟨ra,rc,Oj⟩:=An.form;obtain⟨Gf,rvs,Ol,hre⟩:=An;rw[Oj] at Ol Gf;have R0:=hre.length;have Sw:wr.drew.ownsRow B 27 1 (.slice ra (byL (T.take j) i).length rc) rvs.length rvs:=Z00 Ol ((Ext.rfl' wr).drew);have Mc:wr.drew.ownsRow B 27 1 (.slice ra (byL (T.take j) i).length rc) (byL (T.take j) i).length rvs:=by have h:=Sw;rw[R0] at h;exact h
   have Md:∀W,W=wr.drew\/W=wr.drew.alloc (.cells #[.slice (some ⟨gl,0,none⟩) l.length cl] 27)->(Instr.lookup 182 (.map (some (w.heap.size+1+1))) (.int .i64 i) false).run prog W= .ok (.slice ra (byL (T.take j) i).length rc) W:=by
    intro W hW;obtain⟨kl,F2⟩:=Z3M i (by omega);have Fc:MapAt prog 3 W (w.heap.size+1+1) G:=by
     rcases hW with rfl|rfl
     ·exact Ct.keep rfl
     ·exact Ct.keep (((Ext.rfl' wr).drew.alloc _).old _ Ct.lt)
    have:=Fc.lookup K3 u182 (Zap W) F2 false;rw[if_neg (by decide)] at this;rw[this];exact congrArg (fun v=>Result.ok v W) Oj
   have Sy:B<=(wr.drew.alloc (.cells #[.slice (some ⟨gl,0,none⟩) l.length cl] 27)).heap.size:=by simp only[Z2];have:=hX.size;have:wr.drew.heap.size=wr.heap.size:=rfl;omega
   have hrlen:(byL (T.take j) i).length<=100000:=Nat.le_trans (List.length_filter_le _ _) (by rw[List.length_take];omega);obtain⟨A,hA⟩:∃A:Value->World->Prop,A=fun v w3=>w3.ownsRow B 27 1 v (rvs.length+1) (rvs++[.slice (some ⟨gl,0,none⟩) l.length cl])/\(wr.drew.alloc (.cells #[.slice (some ⟨gl,0,none⟩) l.length cl] 27)).grownBy w3 (Value.ownBlock (.slice ra (byL (T.take j) i).length rc))/\((v.ownBlock=Value.ownBlock (.slice ra (byL (T.take j) i).length rc))\/∀k,v.ownBlock=some k->(wr.drew.alloc (.cells #[.slice (some ⟨gl,0,none⟩) l.length cl] 27)).heap.size<=k):=⟨_,rfl⟩
   have Me:∀v w3,A v w3->w3.ownsRow B 27 1 v (rvs.length+1) (rvs++[.slice (some ⟨gl,0,none⟩) l.length cl])/\(wr.drew.alloc (.cells #[.slice (some ⟨gl,0,none⟩) l.length cl] 27)).grownBy w3 (Value.ownBlock (.slice ra (byL (T.take j) i).length rc))/\((v.ownBlock=Value.ownBlock (.slice ra (byL (T.take j) i).length rc))\/∀k,v.ownBlock=some k->(wr.drew.alloc (.cells #[.slice (some ⟨gl,0,none⟩) l.length cl] 27)).heap.size<=k):=fun v w3 h=>by rw[hA] at h;exact h
   have Sz:∀v w3,w3.ownsRow B 27 1 v (rvs.length+1) (rvs++[.slice (some ⟨gl,0,none⟩) l.length cl])/\(wr.drew.alloc (.cells #[.slice (some ⟨gl,0,none⟩) l.length cl] 27)).grownBy w3 (Value.ownBlock (.slice ra (byL (T.take j) i).length rc))/\((v.ownBlock=Value.ownBlock (.slice ra (byL (T.take j) i).length rc))\/∀k,v.ownBlock=some k->(wr.drew.alloc (.cells #[.slice (some ⟨gl,0,none⟩) l.length cl] 27)).heap.size<=k)->A v w3:=fun v w3 h=>by rw[hA];exact h
   clear hA;have T0:∀v w3,A v w3->∀k,k<w2.heap.size->w3.heap[k]? =wr.heap[k]? :=by
    intro v w3 h k hk;obtain⟨_,hg,_⟩:=Me v w3 h;rw[hg.block k (by simp only[Z2];have:=hX.size;have:wr.drew.heap.size=wr.heap.size:=rfl;omega) (fun e=>by have:=Bb i As k (by rw[Oj];exact e.symm);omega)];rw[Z3,if_neg (by have:=hX.size;have:wr.drew.heap.size=wr.heap.size:=rfl;omega)];rfl
   have Aa:∀v w3,A v w3->∃o,(Instr.mapUpdate 182 (.map (some (w.heap.size+1+1))) (.int .i64 i) v).run prog w3= .ok () (setBlock w3 (w.heap.size+1+1) o)/\ByAt B w2.heap.size n (w.heap.size+1+1) (T.take (j+1)) (setBlock w3 (w.heap.size+1+1) o):=by
    intro v w3 h;obtain⟨h1,h2,h3⟩:=Me v w3 h;rw[Z0G hl];have Q7:Ext wr (wr.drew.alloc (.cells #[.slice (some ⟨gl,0,none⟩) l.length cl] 27)):=(Ext.rfl' wr).drew.alloc _
    exact ByAt.step (W:=wr.drew.alloc (.cells #[.slice (some ⟨gl,0,none⟩) l.length cl] 27)) (G:=G) (Ct.keep (Q7.old _ Ct.lt)) (fun q hq=>(Bp q hq).ext Q7) C5 Bb (Nat.le_trans hX.size Q7.size) As (by omega) (by rw[List.head?_eq_getElem?];exact hp)
     (Z00 (Z2R Ci hX g2) Q7) (by rw[Oj];exact Z00 Ol Q7) (hre.mono fun u s h=>Z00 h Q7) h1 (by rw[Oj];exact h2) (by rw[Oj];exact h3)
   have Ut:¬((l.length:Int)<=0):=by omega
   have hlne:¬l=[]:=by rintro rfl;simp at Ut
   clear I5;clear De;go_wp2_with fail;refine Zia (T:=Value×World×Obj) (fun z=>[(19,.map (some (w.heap.size+1+1))),(20,.slice (some ⟨gl,0,none⟩) l.length cl),(21,.pointer (some ⟨gl,0,none⟩)),(22,.int .i64 i),(23,.map (some (w.heap.size+1+1))),(24,.slice (some ⟨gl,0,none⟩) l.length cl),(25,.pointer (some ⟨gl,0,none⟩)),(26,.int .i64 i),(27,.slice ra (byL (T.take j) i).length rc),(28,.slice (some ⟨gl,0,none⟩) l.length cl),(29,.slice (some ⟨wr.drew.heap.size,0,none⟩) 1 1),(30,z.1)]) (fun z W=>A z.1 z.2.1/\W=setBlock z.2.1 (w.heap.size+1+1) z.2.2/\ByAt B w2.heap.size n (w.heap.size+1+1) (T.take (j+1)) (setBlock z.2.1 (w.heap.size+1+1) z.2.2)) ?_ ?_
   ·refine Zhk (ExtX fun q=>wr.heap.size<=q\/Value.ownBlock (.slice ra (byL (T.take j) i).length rc)=some q\/q=w.heap.size+1+1) (by kernel_rfl) ?_;have hyd:=((Ext.rfl' wr).drew).cellS hyc;have hld:=((Ext.rfl' wr).drew).cellS hlc;have Y4:∀k,Value.ownBlock (.slice ra (byL (T.take j) i).length rc)=some k->w2.heap.size<=k:=fun k hk=>Bb i As k (by rw[Oj];exact hk)
    have hy3:=Z5 g3;have hyN:¬(wr.heap.size<=w.heap.size+1+1+1\/Value.ownBlock (.slice ra (byL (T.take j) i).length rc)=some (w.heap.size+1+1+1)\/w.heap.size+1+1+1=w.heap.size+1+1):=by
     rintro(h|h|h)
     ·have:=hX.size;omega
     ·have:=Y4 _ h;omega
     ·omega
    have Uw:¬(wr.heap.size<=gl\/Value.ownBlock (.slice ra (byL (T.take j) i).length rc)=some gl\/gl=w.heap.size+1+1):=by
     rintro(h|h|h)
     ·have:=hX.size;omega
     ·have:=Y4 _ h;omega
     ·exact Sv h
    have gy:=GrE.cell (X:=fun q=>wr.heap.size<=q\/Value.ownBlock (.slice ra (byL (T.take j) i).length rc)=some q\/q=w.heap.size+1+1) hyN hyd;have gz:=GrE.cell (X:=fun q=>wr.heap.size<=q\/Value.ownBlock (.slice ra (byL (T.take j) i).length rc)=some q\/q=w.heap.size+1+1) Uw hld;clear hyN Uw Y4;refine Zh8 (ExtX.pre _) [0,1,2,3,4,5,6,7,9] (by kernel_rfl) (by kernel_rfl) ?_;simp only[ZeD,List.getElem?_cons_succ,List.getElem?_cons_zero,List.cons_append,List.nil_append]
    repeat (go_big_quiet_step (fail))
    refine wpQuiet_nil ?_;clear gy gz;refine Zir 8 10 rfl rfl (by kernel_rfl) rfl rfl ?_ ?_
    ·refine Zf3 ⟨.slice ra (byL (T.take j) i).length rc,wr.drew,by have G5:=Md (wr.drew) (.inl rfl);simp[go_sem,execOp,Act.eval,G5],Go.Nk.Ext.toX (Ext.rfl' _) _,?_⟩;go_simp;refine Zh4 10 rfl (by kernel_rfl) rfl ?_;refine Zf3 ⟨.slice (some ⟨wr.drew.heap.size,0,none⟩) 1 1,wr.drew.alloc (.cells #[.slice (some ⟨gl,0,none⟩) l.length cl] 27),by simp[go_sem,execOp,Act.eval],Go.Nk.Ext.toX ((Ext.rfl' _).alloc _) _,?_⟩;go_simp;refine Zh4 11 rfl (by kernel_rfl) rfl ?_;refine Z3V _ _ 57 rfl B 27 Tryz.t27 (.slice none 0 0) 1 24 u57 i27 t27z t27s t27b rfl (by omega) (.slice ra (byL (T.take j) i).length rc) (byL (T.take j) i).length rvs rfl (Mc.alloc _) ⟨wr.drew.heap.size,0,none⟩ 1 1 [.slice (some ⟨gl,0,none⟩) l.length cl] rfl rfl (Z1N _ _ _) (by intro u hu;rw[List.mem_singleton.1 hu];rfl) (by simp[maxLen];omega) (by omega) Sy (fun v' w3 Af Dp Om=>⟨Zhv Dp (fun k hk=> .inr (.inl hk)),?_⟩);have T1:=Sz v' w3 ⟨by rw[R0];exact Af,Dp,Om⟩;obtain⟨o,Dx,K7⟩:=Aa v' w3 T1;go_simp;refine Zh4 12 rfl (by kernel_rfl) rfl (Zie ⟨setBlock w3 (w.heap.size+1+1) o,by simp[go_sem,execOp,Act.eval,Dx],Zif w3 (.inr (.inr rfl)) o,?_⟩);go_simp;refine ZhF (by kernel_rfl) ?_;exact⟨rfl,v',(by simp only[Zip,Act.put];go_simp),w3,T1,o,rfl,(by rw[hB] at K7;exact K7)⟩
    ·refine Zf3 ⟨.slice (some ⟨wr.drew.heap.size,0,none⟩) 1 1,wr.drew.alloc (.cells #[.slice (some ⟨gl,0,none⟩) l.length cl] 27),by simp[go_sem,execOp,Act.eval],Go.Nk.Ext.toX ((Ext.rfl' _).alloc _) _,?_⟩;go_simp;refine Zh4 8 rfl (by kernel_rfl) rfl ?_;refine Zf3 ⟨.slice ra (byL (T.take j) i).length rc,wr.drew.alloc (.cells #[.slice (some ⟨gl,0,none⟩) l.length cl] 27),by have G5:=Md (wr.drew.alloc (.cells #[.slice (some ⟨gl,0,none⟩) l.length cl] 27)) (.inr rfl);simp only[World.alloc_drew] at G5;simp[go_sem,execOp,Act.eval,G5],Go.Nk.Ext.toX (Ext.rfl' _) _,?_⟩;go_simp;refine Zh4 11 rfl (by kernel_rfl) rfl ?_;refine Z3V _ _ 57 rfl B 27 Tryz.t27 (.slice none 0 0) 1 24 u57 i27 t27z t27s t27b rfl (by omega) (.slice ra (byL (T.take j) i).length rc) (byL (T.take j) i).length rvs rfl (Mc.alloc _) ⟨wr.drew.heap.size,0,none⟩ 1 1 [.slice (some ⟨gl,0,none⟩) l.length cl] rfl rfl (Z1N _ _ _) (by intro u hu;rw[List.mem_singleton.1 hu];rfl) (by simp[maxLen];omega) (by omega) Sy (fun v' w3 Af Dp Om=>⟨Zhv Dp (fun k hk=> .inr (.inl hk)),?_⟩);have T1:=Sz v' w3 ⟨by rw[R0];exact Af,Dp,Om⟩;obtain⟨o,Dx,K7⟩:=Aa v' w3 T1;go_simp;refine Zh4 12 rfl (by kernel_rfl) rfl (Zie ⟨setBlock w3 (w.heap.size+1+1) o,by simp[go_sem,execOp,Act.eval,Dx],Zif w3 (.inr (.inr rfl)) o,?_⟩)
     go_simp;refine ZhF (by kernel_rfl) ?_;exact⟨rfl,v',(by simp only[Zip,Act.put];go_simp),w3,T1,o,rfl,(by rw[hB] at K7;exact K7)⟩
   ·rintro⟨v9,w9,o9⟩ W ⟨Y5,Mf,On⟩;simp only at Y5 Mf On;simp only[Zip,Act.put];replace Mf:Hid (W=setBlock w9 (w.heap.size+1+1) o9):=Mf;go_simp;replace Mf:=Mf.out;have T2:Map1 (w.heap.size+1+1) w2 W:=by
     obtain⟨_,k1,_⟩:=Me _ _ Y5;rw[Mf];have G6:=k1.size;simp only[Z2] at G6;have Nl:wr.drew.heap.size=wr.heap.size:=rfl;exact⟨k1.os.trans hX.os,k1.tape.trans hX.tape,k1.output.trans hX.output,by rw[Z2s];have:=hX.size;omega,fun k hk A8=>(Z0O A8 _).trans ((T0 _ _ Y5 k hk).trans (hX.block k hk A8))⟩
    rw[<-Mf] at On;clear Mf;go_wp2;exact⟨⟨j+1,by omega,by push_cast;rfl,T2,On⟩,by simp[intOf];omega⟩
end Go.Proofs.Tryq
namespace Go.Proofs.Tryq
set_option maxRecDepth 100000
set_option maxHeartbeats 4000000
open Go Go.Nk Go.RowKit
theorem Z7I{w:World}{b:Nat}{x:Int}(h:w.heap[b]? =some (.cells #[.int .i64 x] 3)):RawI w (some ⟨b,0,none⟩) [x]:=by
 intro i y hy
 match i,hy with
 |0,hy=>
  obtain rfl:=Option.some.inj hy;exact⟨b,0,rfl,Z5 h,by rw[Z0 h];rfl⟩
def Z1Y(a b c m:Int)(L:List Sf)(k:Int):Int:=if Zo a b c m L [k]=0 then(Zk (Zt a b c L L.length (fun j=>j==k.toNat) m.toNat [] 0) L.length 0 (fun j=>j==k.toNat)).length else 0
theorem Z6S(a b c m:Int)(base:Option Addr)(n cap:Nat)(L:List Sf)(k:Int)(w:World)(A2:L.length=n)(hn:n<=20)(hM:Meas w)(hS:RawA w base L):
 Calls prog 59 #[.agg #[.int .i64 a,.int .i64 b,.int .i64 c,.int .i64 m,.slice base n cap],.int .i64 k] w fun e w'=>e= .returned (.tuple #[.int .i64 (Z1Y a b c m L k),.int .i64 (Zo a b c m L [k])])/\Ext w w':=by
 have ho:=fun W hW ad hl=>Z3c a b c m base n cap L ad 1 1 [k] W A2 hn rfl (by omega) (hM.ext hW) (hS.ext hW) hl
 by_cases h:Zo a b c m L [k]=0
 ·obtain⟨hG,As,E4,hm⟩:=Z1n h;have hk:=As k (by simp);obtain⟨q,rfl⟩:=Int.eq_ofNat_of_zero_le hk.1;have hq:q<9:=by omega
  have R4:(0:Int)<=(q:Int):=by omega
  have Oi:(q:Int)<9:=by omega
  have hF:Z1Y a b c m L q=(Zk (Zt a b c L n (fun j=>j==q) m.toNat [] 0) n 0 (fun j=>j==q)).length:=by rw[Z1Y,if_pos h,A2,Int.toNat_natCast]
  have B5:=fun W hW=>Z65 a b c m base n cap L (fun j=>j==q) W hG A2 (by omega) hm (hM.ext hW) (hS.ext hW)
  rw[h] at ho⊢;rw[hF];generalize Zk (Zt a b c L n (fun j=>j==q) m.toNat [] 0) n 0 (fun j=>j==q)=Bs at B5⊢;simp only[Zs] at B5;clear hF h hk As;have hqs:q=3\/q=0\/q=1\/q=2\/q=4\/q=5\/q=6\/q=7\/q=8:=by omega
  clear hq R4 Oi;rcases hqs with rfl|rfl|rfl|rfl|rfl|rfl|rfl|rfl|rfl
  all_goals
   go_enter func59,ntmps59
   go_wp2_with (first
    |(go_at_call 86;refine(ho _ (by(repeat (with_reducible first|assumption|exact Ext.rfl' _|apply Ext.alloc|apply Ext.drew))) _ (Z7I (by simp only[Z3,Z2];exact if_pos trivial))).mono ?_;rintro e w2 ⟨rfl,A5⟩
      have Ag:Ext w w2:=Ext.trans (by(repeat (with_reducible first|assumption|exact Ext.rfl' _|apply Ext.alloc|apply Ext.drew))) A5)
    |(go_at_call 100;refine(B5 _ (by(repeat (with_reducible first|assumption|exact Ext.rfl' _|apply Ext.alloc|apply Ext.drew|exact Ext.setCell (by(repeat (with_reducible first|assumption|exact Ext.rfl' _|apply Ext.alloc|apply Ext.drew))) _ _ (by simp only[Z2];have:=Ag.size;omega))))).mono ?_;rintro e w3 ⟨v,rfl,T3,Av⟩
      obtain⟨ao,cp,rfl⟩:=T3.form))
   go_ret2;exact⟨rfl,((Ag.alloc _).alloc _).trans Av⟩
 ·have hF:Z1Y a b c m L k=0:=by rw[Z1Y,if_neg h]
  have A8:(Zo a b c m L [k] !=0)=true:=by simpa using h
  rw[hF];generalize Zo a b c m L [k]=f at ho A8⊢;go_enter func59,ntmps59
  go_wp2_with (
   go_at_call 86;refine(ho _ (by(repeat (with_reducible first|assumption|exact Ext.rfl' _|apply Ext.alloc|apply Ext.drew))) _ (Z7I (by simp only[Z3,Z2];exact if_pos trivial))).mono ?_;rintro e w2 ⟨rfl,A5⟩
   have Ag:Ext w w2:=Ext.trans (by(repeat (with_reducible first|assumption|exact Ext.rfl' _|apply Ext.alloc|apply Ext.drew))) A5)
  go_ret2;exact⟨rfl,Ag.alloc _⟩
end Go.Proofs.Tryq
namespace Go.Proofs.Tryq
open Go Go.Nk Go.RowKit
def Z66(a b c m:Int)(L:List Sf):List (List Int):=if Zo a b c m L []=0 then Zk (Zt a b c L L.length (fun _=>false) m.toNat [] 0) L.length 0 (fun _=>false) else[]
def inL(S:List (List Int))(i:Nat):Bool:=S.any fun l=>l.contains (i:Int)
def Z32(n:Nat)(S:List (List Int)):List Int:=((List.range n).filter fun i=> !inL S i).map fun(i:Nat)=>(i:Int)
def Z6T(a b c m:Int)(L:List Sf):List Int:=if Zo a b c m L []=0 then Z32 L.length (Z66 a b c m L) else[]
theorem ZbX(S:List (List Int))(l:List Int)(i:Nat):inL (S++[l]) i=(inL S i||l.contains (i:Int)):=by simp[inL,List.any_append]
theorem Z8C(S:List (List Int))(i:Nat):Z32 (i+1) S=if inL S i=true then Z32 i S else Z32 i S++[(i:Int)]:=by
 rw[Z32,List.range_succ,List.filter_append,List.map_append];cases h:inL S i<;>simp[Z32,h]
theorem Zaq(n:Nat)(S:List (List Int)):(Z32 n S).length<=n:=by
 have:=List.length_filter_le (fun i=> !inL S i) (List.range n);simpa[Z32] using this
theorem Z3O{T:List (List Int)}:∀(d i:Nat)(u:Nat->Bool),∀l∈Zk T d i u,l∈T
 |0,_,_,l,h=>by cases h
 |d+1,i,u,l,h=>by
  have hb:∀(P:List Int->Prop)(a b:List (List Int)),(∀l∈a,P l)->(∀l∈b,P l)->∀l∈Z0q a b,P l:=fun P a b h h'=>by unfold Z0q;split<;>assumption
  have hf:∀(B mo:List (List Int)),(∀l∈B,l∈T)->(∀l∈mo,l∈T)->∀l∈B.foldl (ZL u (Zk T d (i+1))) mo,l∈T:=by
   intro B
   induction B with
   |nil=>exact fun mo _ h=>h
   |cons x B ih=>
    intro mo hB hm;rw[List.foldl_cons];refine ih _ (fun l hl=>hB l (List.mem_cons_of_mem _ hl)) ?_;unfold ZL;split
    ·exact hm
    ·refine hb _ _ _ hm fun l hl=> ?_
     rcases List.mem_cons.1 hl with rfl|hl
     ·exact hB _ List.mem_cons_self
     ·exact Z3O d (i+1) _ l hl
  rw[Zk] at h;exact hb _ _ _ (hf _ _ (fun l hl=>(List.mem_filter.1 hl).1) (fun l hl=>by cases hl)) (fun l hl=>Z3O d (i+1) u l hl) l h
theorem Zdw{B:Nat}{w:World}{v:Value}{ls:List (List Int)}(h:Shr B w v ls){j:Nat}{l:List Int}(hl:ls[j]? =some l)(h0:l≠[]):
 ∃gr cr gl cl,v= .slice (some ⟨gr,0,none⟩) ls.length cr/\B<=gr/\gr<w.heap.size/\w.cell? ⟨gr,j,none⟩=some (.slice (some ⟨gl,0,none⟩) l.length cl)/\OwnI B w (.slice (some ⟨gl,0,none⟩) l.length cl) l/\B<=gl/\gl<w.heap.size/\l.length<=cl:=by
 obtain⟨_,vs,h1,h2⟩:=h;have A2:=h2.length;have hj:j<ls.length:=(List.getElem?_eq_some_iff.1 hl).1;obtain⟨gr,cr,rfl,hb,hg⟩:=h1.form (by omega);obtain⟨u,hu,Ci⟩:=h2.get j l hl;have hc:=h1.cells (g:=gr) rfl j u hu;rw[Z0c] at hc;have Ft:0<l.length:=List.length_pos_iff.2 h0;obtain⟨_,⟨h,_⟩|⟨gl,cl,cur,rfl,Ao,J4,Ek,_⟩⟩:=Ci
 ·subst h;rename_i hx hz;simp at hz;exact absurd hz h0
 ·rename_i hx hq;exact⟨gr,cr,gl,cl,by rw[A2],hb,hg,hc,⟨hx,.inr ⟨gl,cl,cur,rfl,Ao,J4,Ek,hq⟩⟩,Ao,Z5 J4,Ek⟩
end Go.Proofs.Tryq
namespace Go.Proofs.Tryq
set_option maxRecDepth 100000
set_option maxHeartbeats 4000000
open Go Go.Nk Go.RowKit
theorem Shr.belowX{B ib:Nat}{w w':World}{v:Value}{ls:List (List Int)}(h:Shr B w v ls)(hX:BelowX w.heap.size ib w w')(Kt:ib<B):Shr B w' v ls:=by
 have key:∀{e:TypeId}{v:Value}{n:Nat}{xs:List Value},w.ownsRow B e 1 v n xs->w'.ownsRow B e 1 v n xs:=fun h=>Z3d h fun k hv=>hX.block k (h.lt k hv).2 (by have:=(h.lt k hv).1;omega)
 obtain⟨h0,vs,h1,h2⟩:=h;exact⟨h0,vs,key h1,h2.mono fun u s h=>key h⟩
theorem Shr.le{B B':Nat}{w:World}{v:Value}{ls:List (List Int)}(h:Shr B w v ls)(hB:B'<=B):Shr B' w v ls:=by
 obtain⟨h0,vs,h1,h2⟩:=h;exact⟨h0,vs,Z05 h1 hB,h2.mono fun u s h=>OwnI.le h hB⟩
theorem BelowX.of_ext{B ib:Nat}{a b c:World}(h:BelowX B ib a b)(hE:Ext b c)(hB:B<=b.heap.size):BelowX B ib a c:=
 h.trans (Z15 hE hB)
theorem ZbY(a b c m:Int)(base:Option Addr)(n cap:Nat)(L:List Sf)(w:World)(A2:L.length=n)(hn:n<=20)(hM:Meas w)(hS:RawA w base L):
 Calls prog 37 #[.agg #[.int .i64 a,.int .i64 b,.int .i64 c,.int .i64 m,.slice base n cap]] w fun e w'=>∃v1 v2,e= .returned (.tuple #[v1,v2,.int .i64 (Zo a b c m L [])])/\Shr w.heap.size w' v1 (Z66 a b c m L)/\OwnI w.heap.size w' v2 (Z6T a b c m L)/\Ext w w':=by
 have ho:=fun W hW=>Z3c a b c m base n cap L none 0 0 [] W A2 hn rfl (by omega) (hM.ext hW) (hS.ext hW) (fun i x hx=>by simp at hx)
 by_cases h:Zo a b c m L []=0
 ·obtain⟨hG,_,E4,hm⟩:=Z1n h;have Js:Z66 a b c m L=Zk (Zt a b c L n (fun _=>false) m.toNat [] 0) n 0 (fun _=>false):=by rw[Z66,if_pos h,A2]
  have A0:Z6T a b c m L=Z32 n (Z66 a b c m L):=by rw[Z6T,if_pos h,A2]
  have B5:=fun W hW=>Z65 a b c m base n cap L (fun _=>false) W hG A2 (by omega) hm (hM.ext hW) (hS.ext hW)
  have Bc:∀l∈Zk (Zt a b c L n (fun _=>false) m.toNat [] 0) n 0 (fun _=>false),(∀p∈l,0<=p/\p<(n:Int))/\l.length=m.toNat:=fun l hl=>by
   have:=Z2A a b c L n (fun _=>false) m.toNat [] 0 l (Z3O _ _ _ l hl) (by simp) List.Pairwise.nil;exact⟨this.2.1,by simpa using this.2.2⟩
  have T4:=Z2C (Zt a b c L n (fun _=>false) m.toNat [] 0) n 0 (fun _=>false);rw[A0,Js];rw[h] at ho⊢;generalize Zk (Zt a b c L n (fun _=>false) m.toNat [] 0) n 0 (fun _=>false)=S at B5 Bc T4⊢;simp only[Zs] at B5;clear Js A0 h;go_enter func37,ntmps37
  go_wp2_with (first
   |(go_at_call 86;refine(ho _ (by(repeat (with_reducible first|assumption|exact Ext.rfl' _|apply Ext.alloc|apply Ext.drew)))).mono ?_;rintro e w2 ⟨rfl,A5⟩
     have Ag:Ext w w2:=Ext.trans (by(repeat (with_reducible first|assumption|exact Ext.rfl' _|apply Ext.alloc|apply Ext.drew))) A5;have Hn:w2.heap[w.heap.size]? =some (.cells #[.int .i64 a,.int .i64 b,.int .i64 c,.int .i64 m,.slice base n cap] 26):=A5.get (by simp only[Z3,Z2];exact if_pos trivial))
   |(go_at_call 100;refine(B5 _ (by(repeat (with_reducible first|assumption|exact Ext.rfl' _|apply Ext.alloc|apply Ext.drew)))).mono ?_;rintro e w3 ⟨v,rfl,T3,Av⟩
     obtain⟨ao,cp,rfl⟩:=T3.form;have B6:Ext w w3:=Ext.trans (by(repeat (with_reducible first|assumption|exact Ext.rfl' _|apply Ext.alloc|apply Ext.drew))) Av;have Ac:=((Ext.rfl' w2).alloc _).alloc _ |>.trans Av |>.get Hn
     have Kt:w3.heap[w2.heap.size+1]? =some (.cells (Zs (inL (S.take 0))) 138):=Av.get (by simp only[Z3,Z2];exact if_pos trivial);simp only[Z2] at T3))
  have Y6:=Z5 Kt;clear ho B5 A5 Av;have T5:=Z0 Ac 4;simp only[List.getElem?_toArray,List.getElem?_cons_zero,List.getElem?_cons_succ] at T5;go_loopw [2,24] (fun v2 v24 wr=>∃j,j<=S.length/\v24= .int .i64 j/\BelowX w3.heap.size (w2.heap.size+1) w3 wr/\wr.heap[w2.heap.size+1]? =some (.cells (Zs (inL (S.take j))) 138)/\Shr w3.heap.size wr v2 (S.take j)) (fun _ v24 _=>S.length - (intOf v24).toNat)
  case atStart=>exact⟨0,Nat.zero_le _,rfl,BelowX.refl _ _ _,Kt,Shr.nil _ _⟩
  case round=>
   obtain⟨j,hj,rfl,hX,hi,I6⟩:=hrel;clear Kt;by_cases Il:j=S.length
   ·subst Il;rw[List.take_length] at hi I6;have Ex:wr.cell? ⟨w.heap.size,4,none⟩=some (.slice base n cap):=by
     rw[<-T5];simp only[World.cell?,hX.block w.heap.size (Z5 Ac) (by have:=Ag.size;omega)]
    have D6:=hX.size;go_wp2;obtain⟨wo,rfl⟩:∃wo:World,wo=wr:=⟨_,rfl⟩;go_loopw [3,46] (fun v3 v46 wz=>∃i:Nat,i<=n/\v46= .int .i64 i/\Ext wo wz/\OwnI wo.heap.size wz v3 (Z32 i S)) (fun _ v46 _=>n - (intOf v46).toNat)
    case atStart=>exact⟨0,Nat.zero_le _,rfl,Ext.rfl' _,World.ownsRow_nil _ _ _ _⟩
    case round=>
     obtain⟨i,As,rfl,Q8,A9⟩:=hrel;by_cases Fg:i=n
     ·subst Fg;go_wp2;refine bodyPost_ret (results_tmp3 rfl _ _ _) rfl ?_;refine⟨_,_,rfl,(I6.ext Q8).le (by have:=B6.size;omega),A9.le (by have:=B6.size;omega),?_⟩;exact(BelowX.ext hX B6 (by have:=Ag.size;omega) B6.size).trans Q8
     ·have A3:i<n:=(by omega);have Uf:=Z0 (Q8.get hi) i;rw[Z1u _ i (by omega)] at Uf;have Cf:(0:Int)<=(i:Int):=(by omega);have hi9:(i:Int)<9:=(by omega);have hiL:(i:Int)<(n:Int):=(by omega);have Cx:=Zaq i S;have hsz2:=Q8.size;have Jv:=Z8C S i;cases hb:inL S i with
      |true=>
       rw[hb] at Uf Jv;rw[if_pos rfl] at Jv;rw[<-Jv] at A9;clear Jv Cx;go_wp2;exact⟨⟨i+1,by omega,by push_cast;rfl,Q8,A9⟩,by simp[intOf];omega⟩
      |false=>
       rw[hb] at Uf Jv;rw[if_neg (by decide)] at Jv;have Y7:Hid (Z32 (i+1) S=Z32 i S++[(i:Int)]):=Jv;clear Jv
       go_wp2_with (
        at_builtin
        refine wpList_append_own _ rfl _ _ _ rfl wo.heap.size 3 Tryz.t3 (.int .i64 0) 1 8 Go.Proofs.Tryq.u27 i3 t3z t3s t3b rfl (by omega) _ _ _ rfl (A9.alloc _) ⟨wr.heap.size,0,none⟩ 1 1 [.int .i64 i] rfl rfl (Z1N _ _ _) (by intro u hu;simp at hu;subst hu;rfl) (by simp[maxLen];omega) (by omega) (by simp;omega) ?_;intro v' w5 H5 F7 _;have C1:Ext wo w5:=(Q8.alloc _).grown F7 (fun k hk=>(A9.lt k hk).1))
       exact⟨⟨i+1,by omega,by push_cast;rfl,C1,by rw[Y7.out];simpa[OwnI] using H5⟩,by simp[intOf];omega⟩
   ·have Cb:j<S.length:=(by omega);obtain⟨l,hl⟩:∃l,S[j]? =some l:=⟨_,List.getElem?_eq_getElem Cb⟩;obtain⟨Px,I5⟩:=Bc l (List.mem_of_getElem? hl);have Hx:0<l.length:=(by omega);have Lc:l.length<=9:=(by omega);clear I5;obtain⟨gr,cr,gl,cl,Se,Sg,Kz,Do,Ci,Si,J9,Ek⟩:=Zdw T3 hl (by rintro rfl;simp at Hx);obtain⟨rfl,rfl⟩:ao=some ⟨gr,0,none⟩/\cp=cr:=(by simpa using Se);replace Do:wr.cell? ⟨gr,j,none⟩=some (.slice (some ⟨gl,0,none⟩) l.length cl):=by
     rw[<-Do];simp only[World.cell?,hX.block gr Kz (by omega)]
    have D2:∀W,Ext wr W->∀(j:Nat) u,(l.map (Value.int .i64))[j]? =some u->W.cell? ⟨gl,j,none⟩=some u:=by
     intro W hW j u hu;have:=Ci.cells (g:=gl) rfl j u hu;rw[Z0c] at this;refine hW.cellS ?_;rw[<-this];simp only[World.cell?,hX.block gl J9 (by omega)]
    have Jd:=fun W hW=>Z60 gl l.length cl l W rfl Hx (by omega) Ek (by have:=hX.size;have:=(hW:Ext wr W).size;omega) (D2 W hW)
    obtain⟨a2,c2,rfl⟩:=I6.form;have Oo:=I6;obtain⟨Ux,vs,Em,I7⟩:=I6;have htl:(S.take j).length=j:=(by rw[List.length_take];omega);have La:=I7.length;rw[La] at Em;rw[htl] at Em Ux La Oo⊢;have hj0:(0:Int)<=(j:Int):=(by omega);have hjL:(j:Int)<(S.length:Int):=by omega
    go_wp2_with (first
     |(go_at_call 101;refine(Jd _ (by(repeat (with_reducible first|assumption|exact Ext.rfl' _|apply Ext.alloc|apply Ext.drew)))).mono ?_;rintro e w4 ⟨g',cap',rfl,ho4,Av⟩)
     |(at_builtin
       refine wpList_append_own _ rfl _ _ _ rfl w3.heap.size 27 Tryz.t27 (.slice none 0 0) 1 24 u57 i27 t27z t27s t27b rfl (by omega) (.slice a2 j c2) _ _ rfl ((Z00 Em Av).alloc _) ⟨w4.heap.size,0,none⟩ 1 1 [.slice (some ⟨g',0,none⟩) l.length cap'] rfl rfl (Z1N _ _ _) (by intro u hu;rw[List.mem_singleton.1 hu];rfl) (by simp[maxLen];omega) (by omega) (by simp only[Z2];have:=Av.size;have:=hX.size;omega) ?_;intro v' w5 H5 F7 _))
    have Le:(w4.alloc (.cells #[.slice (some ⟨g',0,none⟩) l.length cap'] 27)).grownBy w5 (Value.ownBlock (.slice a2 j c2)):=F7;clear F7;have T6:Shr w3.heap.size (w4.alloc (.cells #[.slice (some ⟨g',0,none⟩) l.length cap'] 27)) (.slice a2 j c2) (S.take j):=(Oo.ext Av).ext ((Ext.rfl' w4).alloc _);have Qt:=hX.size;have Ma:=Av.size;have T7:BelowX w3.heap.size (w2.heap.size+1) w3 w5:=by
     refine(hX.of_ext (Av.alloc (.cells #[.slice (some ⟨g',0,none⟩) l.length cap'] 27)) hX.size).trans ⟨Le.os,Le.tape,Le.output,Le.size,fun k hk _=>Le.block k (by simp only[Z2];omega) (fun e=>by have:=(T6.lt e.symm).1;omega)⟩
    have hi5:w5.heap[w2.heap.size+1]? =some (.cells (Zs (inL (S.take j))) 138):=(Le.block _ (by simp only[Z2];omega) (fun e=>by have:=(T6.lt e.symm).1;omega)).trans (((Av.alloc _).get hi));have Y1:Shr w3.heap.size w5 v' (S.take (j+1)):=by
     rw[Z0G hl];refine⟨fun h=>by simp at h,vs++[.slice (some ⟨g',0,none⟩) l.length cap'],by simpa[La] using H5,Each.append (I7.mono fun u s h=>OwnI.grownRow (OwnI.ext (OwnI.ext h Av) ((Ext.rfl' w4).alloc _)) T6 Le) ⟨OwnI.grownRow (OwnI.ext (OwnI.le ho4 Qt) ((Ext.rfl' w4).alloc _)) T6 Le,trivial⟩⟩
    clear Le T6 Em I7 La Ux Oo H5 ho4 Do D2 Jd;obtain⟨wo,rfl⟩:∃wo:World,wo=wr:=⟨_,rfl⟩;go_loopw [35] (fun v35 wz=>∃k:Nat,k<=l.length/\v35= .int .i64 k/\BelowX w5.heap.size (w2.heap.size+1) w5 wz/\wz.heap[w2.heap.size+1]? =some (.cells (Zs (fun i=>inL (S.take j) i||(l.take k).contains (i:Int))) 138)) (fun v35 _=>l.length - (intOf v35).toNat)
    case atStart=>exact⟨0,Nat.zero_le _,rfl,BelowX.refl _ _ _,by rw[hi5,Z1o];intro i _;simp⟩
    case round=>
     obtain⟨k,hk,rfl,Mg,T8⟩:=hrel;by_cases F2:k=l.length
     ·subst F2;rw[List.take_length] at T8;have Y8:wr.heap[w2.heap.size+1]? =some (.cells (Zs (inL (S.take (j+1)))) 138):=by
       rw[T8,Z1o];intro i _;rw[Z0G hl,ZbX]
      have hXf:BelowX w3.heap.size (w2.heap.size+1) w3 wr:=T7.trans ⟨Mg.os,Mg.tape,Mg.output,by have:=Mg.size;have:=T7.size;omega,fun k hk A8=>Mg.block k (by have:=T7.size;omega) A8⟩;have hSf:=Y1.belowX Mg Y6;go_wp2;exact⟨⟨j+1,by omega,by push_cast;rfl,hXf,Y8,hSf⟩,by simp[intOf];omega⟩
     ·obtain⟨p,hp⟩:∃p,l[k]? =some p:=⟨_,List.getElem?_eq_getElem (by omega)⟩;have Kv:=Px p (List.mem_of_getElem? hp);obtain⟨q,rfl⟩:=Int.eq_ofNat_of_zero_le Kv.1;have Oi:q<9:=(by omega);have Hk:=Ci.cells (g:=gl) rfl k (.int .i64 q) (by rw[List.getElem?_map,hp];rfl);rw[Z0c] at Hk;replace Hk:wr.cell? ⟨gl,k,none⟩=some (.int .i64 q):=by
       rw[<-Hk];simp only[World.cell?,Mg.block gl (by have:=T7.size;omega) (by omega),T7.block gl J9 (by omega)]
      have hfq:=Z8 T8 q;have Ld:=Z0 T8 q;rw[Z1u _ q Oi] at Ld;generalize (inL (S.take j) q||(l.take k).contains (q:Int))=bq at Ld;have Xw:(0:Int)<=(k:Int):=(by omega);have hkL:(k:Int)<(l.length:Int):=(by omega);have R4:(0:Int)<=(q:Int):=(by omega);have Xx:(q:Int)<9:=(by omega);go_wp2;have hA:=Go.Conc.aside_setCell wr ⟨w2.heap.size+1,q,none⟩ (.bool true);refine⟨⟨k+1,by omega,by push_cast;rfl,Mg.trans ⟨hA.os,hA.tape,hA.output,by rw[hA.size];exact Nat.le_refl _,fun b _ A8=>hA.block b A8⟩,?_⟩,by simp[intOf];omega⟩;rw[Zb T8,Z52 _ q Oi,Z1o];intro i _;have e9:(i==q)=decide ((i:Int)=(q:Int)):=(by rw[Bool.eq_iff_iff];simp;omega);rw[Z0G hp,e9];simp[Bool.or_assoc]
 ·have Js:Z66 a b c m L=[]:=by rw[Z66,if_neg h]
  have A0:Z6T a b c m L=[]:=by rw[Z6T,if_neg h]
  have A8:(Zo a b c m L [] !=0)=true:=by simpa using h
  rw[Js,A0];generalize Zo a b c m L []=f at ho A8⊢;go_enter func37,ntmps37
  go_wp2_with (
   go_at_call 86;refine(ho _ (by(repeat (with_reducible first|assumption|exact Ext.rfl' _|apply Ext.alloc|apply Ext.drew)))).mono ?_;rintro e w2 ⟨rfl,A5⟩
   have Ag:Ext w w2:=Ext.trans (by(repeat (with_reducible first|assumption|exact Ext.rfl' _|apply Ext.alloc|apply Ext.drew))) A5)
  refine bodyPost_ret (results_tmp3 rfl _ _ _) rfl ?_;exact⟨_,_,rfl,Shr.nil _ _,World.ownsRow_nil _ _ _ _,Ag.alloc _⟩
end Go.Proofs.Tryq
namespace Go.Proofs.Tryq
set_option maxRecDepth 100000
set_option maxHeartbeats 2000000
open Go Go.Nk Go.RowKit
theorem Z3P(a b:Int)(w:World):Calls prog 34 #[.int .i64 a,.int .i64 b] w fun e w'=>e= .returned (.agg #[.int .i64 a,.int .i64 b])/\Ext w w':=by
 go_enter func34,ntmps34;go_wp2;refine bodyPost_ret (v:= .agg #[.int .i64 a,.int .i64 b]) ((Z07 rfl _ _ _).trans ?_) rfl ⟨rfl,(Ext.rfl' w).alloc _⟩;simp[go_sem]
theorem ZP{a b:Bool}(h:a=b):Ending.returned (.bool a)=Ending.returned (.bool b):=by rw[h]
theorem Z1Z{α:Type}{l:List α}{n:Nat}(h:l.length=n):l.drop n=[]:=by rw[<-h,List.drop_length]
theorem Z54{α:Type}[DecidableEq α]{l k:List α}{i:Nat}{x y:α}(hx:l[i]? =some x)(hy:k[i]? =some y):decide (l.drop i=k.drop i)=(decide (x=y)&&decide (l.drop (i+1)=k.drop (i+1))):=by
 rw[Z0b hx,Z0b hy,Bool.eq_iff_iff];simp
theorem Z1d(a1:Option Addr)(n1 c1:Nat)(l:List Int)(a2:Option Addr)(n2 c2:Nat)(k:List Int)(w:World)(h1:l.length=n1)(h2:k.length=n2)(hb:n1<=1000000/\n2<=1000000)(hl:RawI w a1 l)(hk:RawI w a2 k):
 Calls prog 58 #[.slice a1 n1 c1,.slice a2 n2 c2] w fun e w'=>e= .returned (.bool (decide (l=k)))/\Ext w w':=by
 by_cases hn:n1=n2
 ·have H:Hid (decide (l=k)=decide (l.drop 0=k.drop 0)):=rfl;subst hn;obtain⟨n,hn⟩:∃n,n=n1:=⟨_,rfl⟩;subst hn;go_enter func58,ntmps58;go_wp2;go_loopw [5] (fun v wr=>∃i:Nat,i<=n/\v= .int .i64 i/\Ext w wr/\Hid (decide (l=k)=decide (l.drop i=k.drop i))) (fun v _=>n - (intOf v).toNat)
  case atStart=>exact⟨0,Nat.zero_le _,rfl,Ext.rfl' w,H⟩
  case round=>
   obtain⟨i,hi,rfl,hE,hH⟩:=hrel;clear H;by_cases As:i=n
   ·subst As;have hz:decide (l=k)=true:=(by rw[hH.out,Z1Z h1,Z1Z h2];rfl);go_wp2;go_ret;exact⟨ZP (a:=true) hz.symm,hE⟩
   ·have A3:i<n:=(by omega);obtain⟨x,hx⟩:∃x,l[i]? =some x:=⟨_,List.getElem?_eq_getElem (by omega)⟩;obtain⟨y,hy⟩:∃y,k[i]? =some y:=⟨_,List.getElem?_eq_getElem (by omega)⟩;obtain⟨ba,oa,rfl,Pc,Fj⟩:=(hl.ext hE) i x hx;obtain⟨bb,ob,rfl,Pv,hyb⟩:=(hk.ext hE) i y hy;go_wp2_with fail;have gz0:=Zet Fj;have gz1:=Zet hyb;refine ZeG 9 (by kernel_rfl) ?_;refine ZeB [0,1,2,3,4,5,6,7,8] (by kernel_rfl) (by kernel_rfl) ?_;simp only[ZeD,List.getElem?_cons_succ,List.getElem?_cons_zero,List.cons_append,List.nil_append]
    repeat (go_big_quiet_step (fail))
    refine wpQuiet_nil ?_;refine Zf6 (by kernel_rfl) (fun W hW=> ?_);have B4:=hW;clear gz0 gz1;have Bz:=hE.trans B4;by_cases Ce:x=y
    ·have hb:(x !=y)=false:=(by simpa using Ce);have Dn:Hid (decide (l=k)=decide (l.drop (i+1)=k.drop (i+1))):=(by show _=_;rw[hH.out,Z54 hx hy,decide_eq_true Ce,Bool.true_and]);rw[hb];clear hb;go_wp2;go_roundw
     case rel=>exact⟨i+1,by omega,by push_cast;rfl,Bz,Dn⟩
     case measure=>simp[intOf];omega
    ·have hb:(x !=y)=true:=(by simpa using Ce);have Dn:decide (l=k)=false:=(by rw[hH.out,Z54 hx hy,decide_eq_false Ce,Bool.false_and]);rw[hb];clear hb;go_wp2;go_ret;exact⟨ZP (a:=false) Dn.symm,Bz⟩
 ·have hz:decide (l=k)=false:=decide_eq_false fun h=>hn (by rw[<-h1,<-h2,h])
  have hnn:¬(n1:Int)=(n2:Int):=by omega
  go_enter func58,ntmps58;go_wp2;go_ret;exact⟨ZP (a:=false) hz.symm,Ext.rfl' w⟩
def RawL(w:World)(base:Option Addr)(ls:List (List Int)):Prop:=∀(i:Nat)(l:List Int),ls[i]? =some l->∃b off ad cp,base=some ⟨b,off,none⟩/\b<w.heap.size/\w.cell? ⟨b,off+i,none⟩=some (.slice ad l.length cp)/\l.length<=1000000/\RawI w ad l
theorem RawL.ext{w w':World}{base:Option Addr}{ls:List (List Int)}(h:RawL w base ls)(e:Ext w w'):RawL w' base ls:=by
 intro i l hi;obtain⟨b,off,ad,cp,h1,h2,h3,h4,h5⟩:=h i l hi;exact⟨b,off,ad,cp,h1,e.lt h2,e.cellS h3,h4,h5.ext e⟩
theorem OwnI.rawI{b:Nat}{w:World}{v:Value}{l:List Int}(h:OwnI b w v l):∃ao cp,v= .slice ao l.length cp/\RawI w ao l/\l.length<=cp:=by
 by_cases h0:l=[]
 ·subst h0;rcases h.2 with⟨rfl,_⟩|⟨g,cp,_,rfl,_⟩
  ·exact⟨none,0,rfl,fun i x hx=>by simp at hx,Nat.zero_le _⟩
  ·exact⟨_,cp,rfl,fun i x hx=>by simp at hx,Nat.zero_le _⟩
 ·rcases h.2 with⟨rfl,hz⟩|⟨g,cp,cur,rfl,hb,hg,Ek,hr⟩
  ·simp at hz;exact absurd hz h0
  ·exact⟨_,cp,rfl,OwnI.raw (b:=b) ⟨h.1,.inr ⟨g,cp,cur,rfl,hb,hg,Ek,hr⟩⟩,Ek⟩
theorem Shr.rawL{b:Nat}{w:World}{v:Value}{ls:List (List Int)}(h:Shr b w v ls)(hb:∀l∈ls,l.length<=1000000):∃ao cp,v= .slice ao ls.length cp/\RawL w ao ls:=by
 obtain⟨ao,cp,rfl⟩:=h.form;refine⟨ao,cp,rfl,fun i l hl=> ?_⟩;obtain⟨_,vs,h1,h2⟩:=h;have A2:=h2.length;have hi:=(List.getElem?_eq_some_iff.1 hl).1;obtain⟨g,cr,he,_,hg⟩:=h1.form (by omega);obtain⟨rfl,_⟩:ao=some ⟨g,0,none⟩/\_:=by simpa using he
 obtain⟨u,hu,Ci⟩:=h2.get i l hl;have hc:=h1.cells (g:=g) rfl i u hu;rw[Z0c] at hc;obtain⟨ad,cu,rfl,hr,_⟩:=Ci.rawI;exact⟨g,0,ad,cu,rfl,hg,by rw[Nat.zero_add];exact hc,hb l (List.mem_of_getElem? hl),hr⟩
theorem Z55(a1:Option Addr)(n1 c1:Nat)(l:List (List Int))(a2:Option Addr)(n2 c2:Nat)(k:List (List Int))(w:World)(h1:l.length=n1)(h2:k.length=n2)(hb:n1<=1000000/\n2<=1000000)(hl:RawL w a1 l)(hk:RawL w a2 k):
 Calls prog 56 #[.slice a1 n1 c1,.slice a2 n2 c2] w fun e w'=>e= .returned (.bool (decide (l=k)))/\Ext w w':=by
 by_cases hn:n1=n2
 ·have H:Hid (decide (l=k)=decide (l.drop 0=k.drop 0)):=rfl;subst hn;obtain⟨n,hn⟩:∃n,n=n1:=⟨_,rfl⟩;subst hn;go_enter func56,ntmps56;go_wp2;go_loopw [5] (fun v wr=>∃i:Nat,i<=n/\v= .int .i64 i/\Ext w wr/\Hid (decide (l=k)=decide (l.drop i=k.drop i))) (fun v _=>n - (intOf v).toNat)
  case atStart=>exact⟨0,Nat.zero_le _,rfl,Ext.rfl' w,H⟩
  case round=>
   obtain⟨i,hi,rfl,hE,hH⟩:=hrel;clear H;by_cases As:i=n
   ·subst As;have hz:decide (l=k)=true:=(by rw[hH.out,Z1Z h1,Z1Z h2];rfl);go_wp2;go_ret;exact⟨ZP (a:=true) hz.symm,hE⟩
   ·have A3:i<n:=(by omega);obtain⟨x,hx⟩:∃x,l[i]? =some x:=⟨_,List.getElem?_eq_getElem (by omega)⟩;obtain⟨y,hy⟩:∃y,k[i]? =some y:=⟨_,List.getElem?_eq_getElem (by omega)⟩;obtain⟨ba,oa,ax,cx,rfl,Pc,Fj,hxn,hxr⟩:=(hl.ext hE) i x hx;obtain⟨bb,ob,ay,cy,rfl,Pv,hyb,hyn,hyr⟩:=(hk.ext hE) i y hy;go_wp2_with fail;have gz0:=Zet Fj;have gz1:=Zet hyb;refine ZeG 10 (by kernel_rfl) ?_;refine ZeB [0,1,2,3,4,5,6,7] (by kernel_rfl) (by kernel_rfl) ?_;simp only[ZeD,List.getElem?_cons_succ,List.getElem?_cons_zero,List.cons_append,List.nil_append]
    repeat (go_big_quiet_step (fail))
    refine wpQuiet_nil ?_;refine ZeX 8 (f:=58) (args:= #[.slice ax x.length cx,.slice ay y.length cy]) (v:= .bool (decide (x=y))) (by kernel_rfl) rfl (by kernel_rfl) rfl (fun W=>by simp[go_sem,execOp,Act.eval]) (fun W hW=>Z1d ax x.length cx x ay y.length cy y _ rfl rfl ⟨hxn,hyn⟩ (hxr.ext hW) (hyr.ext hW)) ?_;go_simp;refine ZeB [9] (by kernel_rfl) (by kernel_rfl) ?_;simp only[ZeD,List.getElem?_cons_succ,List.getElem?_cons_zero,List.cons_append,List.nil_append]
    repeat (go_big_quiet_step (fail))
    refine wpQuiet_nil ?_;refine Zf6 (by kernel_rfl) (fun W hW=> ?_);have B4:=hW;clear gz0 gz1;have Bz:=hE.trans B4;by_cases Ce:x=y
    ·have hb:(!decide (x=y))=false:=(by simpa using Ce);have Dn:Hid (decide (l=k)=decide (l.drop (i+1)=k.drop (i+1))):=(by show _=_;rw[hH.out,Z54 hx hy,decide_eq_true Ce,Bool.true_and]);rw[hb];clear hb;go_wp2;go_roundw
     case rel=>exact⟨i+1,by omega,by push_cast;rfl,Bz,Dn⟩
     case measure=>simp[intOf];omega
    ·have hb:(!decide (x=y))=true:=(by simpa using Ce);have Dn:decide (l=k)=false:=(by rw[hH.out,Z54 hx hy,decide_eq_false Ce,Bool.false_and]);rw[hb];clear hb;go_wp2;go_ret;exact⟨ZP (a:=false) Dn.symm,Bz⟩
 ·have hz:decide (l=k)=false:=decide_eq_false fun h=>hn (by rw[<-h1,<-h2,h])
  have hnn:¬(n1:Int)=(n2:Int):=by omega
  go_enter func56,ntmps56;go_wp2;go_ret;exact⟨ZP (a:=false) hz.symm,Ext.rfl' w⟩
end Go.Proofs.Tryq
namespace Go.Proofs.Tryq
open Go Go.Nk Go.RowKit
set_option linter.all false
theorem Zhx{w:World}{bl:Option Addr}{S:List Int}(h:RawI w bl S)(h0:S≠[]):∃b o,bl=some ⟨b,o,none⟩/\b<w.heap.size/\∀j u,(S.map (Value.int .i64))[j]? =some u->w.cell? ((⟨b,o,none⟩:Addr).add j)=some u:=by
 obtain⟨x,hx⟩:∃x,S[0]? =some x:=by
  cases S with
  |nil=>exact absurd rfl h0
  |cons x t=>exact⟨x,rfl⟩
 obtain⟨b,o,rfl,hb,_⟩:=h 0 x hx;refine⟨b,o,rfl,hb,fun j u hj=> ?_⟩;rw[List.getElem?_map] at hj;obtain⟨y,hy,rfl⟩:=Option.map_eq_some_iff.1 hj;obtain⟨b',o',e,_,hc⟩:=h j y hy;obtain⟨rfl,rfl⟩:b=b'/\o=o':=by simpa using e
 have e2:(⟨b,o,none⟩:Addr).add j=⟨b,o+j,none⟩:=by unfold Addr.add;split<;>simp_all
 rw[e2];exact hc
theorem Zhm{o:Oper}{a:Act}{w:World}{K:Act->World->Prop}{Q:Exit->Act->World->Prop}(s x:Operand)(ho:o.op= .call {callee:= .builtin .append,args:= #[s,x],argTypes:= #[27,27]})
 (base:Nat)(v:Value)(T:List Int)(hs:a.eval s=v)(A9:OwnI base w v T)(bl:Option Addr)(c:Nat)(S:List Int)(hx:a.eval x= .slice bl S.length c)(Bq:bl=none->c=0)(hS:RawI w bl S)
 (hb:T.length+S.length<=1000000)(A4:base<=w.heap.size)(h:∀v' w',OwnI base w' v' (T++S)->w.grownBy w' v.ownBlock->K (a.put o.dst v') w'):o.wp prog a w K Q:=by
 cases bl with
 |none=>
  have Fo:S=[]:=by
   cases S with
   |nil=>rfl
   |cons x t=>
    obtain⟨b,o,e,_⟩:=hS 0 x rfl;cases e
  subst Fo;obtain rfl:=Bq rfl;have Ae:=run_append_owned_none (P:=prog) (w:=w) base 27 o.type 3 Tryz.t3 1 u27 i3 v T.length (T.map (Value.int .i64)) A9;have hx:a.eval x= .slice none 0 0:=hx;unfold Oper.wp;simp[execOp,ho,resolve,invoke,builtin,hs,hx,Ae,Result.andThen];exact h v w (by rw[List.append_nil];exact A9) ⟨rfl,rfl,rfl,Nat.le_refl _,fun b hb _=>rfl⟩
 |some ad=>
  have hn:∀j u,(S.map (Value.int .i64))[j]? =some u->w.cell? (ad.add j)=some u:=by
   by_cases h0:S=[]
   ·subst h0;intro j u hj;simp at hj
   ·obtain⟨b,o,e,_,hc⟩:=Zhx hS h0;cases e;exact hc
  refine wp_append_own w s x 27 ho base 3 Tryz.t3 (.int .i64 0) 1 8 u27 i3 t3z t3s t3b rfl (by omega) v T.length (T.map (Value.int .i64)) hs A9 ad S.length c (S.map (Value.int .i64)) hx (by simp) hn (by intro u hu;obtain⟨x,_,rfl⟩:=List.mem_map.1 hu;rfl) (by simp only[maxLen];omega) (by omega) A4 ?_;intro v' w' h1 h2 _;refine h v' w' ?_ h2;show w'.ownsRow base 3 1 v' (T++S).length ((T++S).map (Value.int .i64));rw[List.map_append,List.length_append];exact h1
def chooseR:List Int->List (List Int)
 |[]=>[[]]
 |x::t=>[]::((chooseR t).map (x::·)++(chooseR t).tail)
theorem chooseR_head:∀l,chooseR l=[]::(chooseR l).tail
 |[]=>rfl
 |_::_=>rfl
theorem chooseR_ne:∀(l:List Int)(c:List Int),c∈(chooseR l).tail->c≠[]
 |[],c,h=>by cases h
 |x::t,c,h=>by
  rcases List.mem_append.1 (show c∈(chooseR t).map (x::·)++(chooseR t).tail from h) with h|h
  ·obtain⟨y,_,rfl⟩:=List.mem_map.1 h;simp
  ·exact chooseR_ne t c h
theorem ZgF(s:List Int)(p:List Int->Bool)(hp:p []=true):(chooseR s).filter (fun c=>decide (c.length=0)&&p c)=[[]]:=by
 rw[chooseR_head,List.filter_cons_of_pos (by simp[hp]),List.filter_eq_nil_iff.2];intro c hc;have:=chooseR_ne s c hc;simp[this]
theorem ZgI(s:List Int)(f:Nat)(p:List Int->Bool):(chooseR s).filter (fun c=>decide (c.length=f+1)&&p c)=(chooseR s).tail.filter (fun c=>decide (c.length=f+1)&&p c):=by
 conv=>lhs;rw[chooseR_head]
 rw[List.filter_cons_of_neg (by simp)]
theorem Zey{A:List Ap}:Zr A=1↔A=[]:=by
 unfold Zr;cases A with
 |nil=>simp
 |cons x t=>
  constructor
  ·intro h;split at h
   ·cases h
   ·simp at h
  ·intro h;cases h
theorem ZgH(a b c:Int)(L:List Sf):∀(x y:List Int),apA a b c L (x++y)=[]->apA a b c L x=[]
 |[],_,_=>rfl
 |p::t,y,h=>by
  have h:apR a b c L p (t++y)++apA a b c L (t++y)=[]:=h;obtain⟨h1,h2⟩:=List.append_eq_nil_iff.1 h;rw[apR,List.flatMap_append] at h1;show apR a b c L p t++apA a b c L t=[];rw[ZgH a b c L t y h2,List.append_nil];exact(List.append_eq_nil_iff.1 h1).1
def ZeS(n:Nat)(out:Nat->Bool)(i:Nat):List Int:=((List.range' i (n - i)).filter fun k=> !out k).map fun(k:Nat)=>(k:Int)
def ZgO(a b c:Int)(L:List Sf)(m:Nat)(s:List Int):List (List Int):=(chooseR s).filter fun l=>decide (l.length=m)&&decide (Zr (apA a b c L l)=1)
theorem ZgJ(a b c:Int)(L:List Sf)(n:Nat)(out:Nat->Bool):∀(d i:Nat),n - i=d->∀(f:Nat)(l:List Int),Zr (apA a b c L l)=1->
 Zt a b c L n out f l i=((chooseR (ZeS n out i)).filter fun s=>decide (s.length=f)&&decide (Zr (apA a b c L (l++s))=1)).map (l++·):=by
 intro d
 induction d with
 |zero=>
  intro i hd f l hl;cases f with
  |zero=>rw[ZgF _ _ (by simpa using hl)];simp[Zt]
  |succ f=>simp[Zt,ZeS,hd,chooseR]
 |succ d ih=>
  intro i hd f l hl;cases f with
  |zero=>rw[ZgF _ _ (by simpa using hl)];simp[Zt]
  |succ f=>
   have hi:i<n:=by omega
   have ih2:=ih (i+1) (by omega);have e1:Zt a b c L n out (f+1) l i=(if out i=false/\Zr (apA a b c L (l++[(i:Int)]))=1 then Zt a b c L n out f (l++[(i:Int)]) (i+1) else[])++Zt a b c L n out (f+1) l (i+1):=by
    rw[Zt,Z61 hi,List.flatMap_cons];rfl
   rw[e1,ih2 (f+1) l hl];cases ho:out i with
   |true=>
    have e2:ZeS n out i=ZeS n out (i+1):=(by simp[ZeS,Z61 hi,ho]);rw[e2];simp
   |false=>
    have e2:ZeS n out i=(i:Int)::ZeS n out (i+1):=(by simp[ZeS,Z61 hi,ho]);rw[e2,chooseR,List.filter_cons_of_neg (by simp),List.filter_append,List.map_append,ZgI,List.filter_map,List.map_map];congr 1;by_cases hm:Zr (apA a b c L (l++[(i:Int)]))=1
    ·rw[if_pos ⟨rfl,hm⟩,ih2 f _ hm];have h':∀s:List Int,l++(i:Int)::s=l++[(i:Int)]++s:=fun s=>by simp
     have e1:(fun s:List Int=>l++[(i:Int)]++s)=((fun x=>l++x)∘fun x=>(i:Int)::x):=funext fun s=>(h' s).symm
     have e2:(fun s:List Int=>decide (s.length=f)&&decide (Zr (apA a b c L (l++[(i:Int)]++s))=1))=((fun s:List Int=>decide (s.length=f+1)&&decide (Zr (apA a b c L (l++s))=1))∘fun x=>(i:Int)::x):=funext fun s=>by
      show _=(decide (((i:Int)::s).length=f+1)&&decide (Zr (apA a b c L (l++(i:Int)::s))=1));rw[h' s,List.length_cons];congr 1;exact decide_eq_decide.2 (by omega)
     rw[e2];exact congrArg (fun g=>List.map g _) e1
    ·rw[if_neg (fun h=>hm h.2),List.filter_eq_nil_iff.2,List.map_nil];intro s _;simp only[Function.comp_def,Bool.and_eq_true,decide_eq_true_eq,not_and];intro _ h;have h':l++(i:Int)::s=l++[(i:Int)]++s:=(by simp);rw[h'] at h;exact hm (Zey.2 (ZgH a b c L _ _ (Zey.1 h)))
theorem Zh0(a b c:Int)(L:List Sf)(n m:Nat)(out:Nat->Bool):Zt a b c L n out m [] 0=ZgO a b c L m (ZeS n out 0):=by
 rw[ZgJ a b c L n out n 0 rfl m [] (by simp[apA,Zr])];simp[ZgO]
def ZQ(s t:List Int):Bool:=s.any fun x=>t.contains x
def shareL:List (List Int)->List (List Int)->List Int->List (List Int)
 |best,[],_=>best
 |best,s::t,taken=>if ZQ s taken then shareL best t taken else shareL (if best.length<(shareL [] t (taken++s)).length+1 then s::shareL [] t (taken++s) else best) t taken
theorem Zhn(a b c:List (List Int)):Z0q (Z0q a b) c=Z0q a (Z0q b c):=by
 unfold Z0q;split<;>split<;>(try split)<;>first|rfl|omega|skip
theorem shareL_best:∀(t:List (List Int))(best:List (List Int))(taken:List Int),shareL best t taken=Z0q best (shareL [] t taken)
 |[],best,taken=>by simp[shareL,Z0q]
 |s::t,best,taken=>by
  rw[shareL,shareL];split
  ·exact shareL_best t best taken
  ·rw[shareL_best t,shareL_best t (if([]:List (List Int)).length<_ then _ else _)];rw[<-Zhn];congr 1
theorem Zhc{taken:List Int}:∀{B:List (List Int)}{best R:List (List Int)},(∀l∈B,ZQ l taken=true)->shareL best (B++R) taken=shareL best R taken
 |[],_,_,_=>rfl
 |l::B,best,R,h=>by
  rw[List.cons_append,shareL,if_pos (h l List.mem_cons_self)];exact Zhc fun l' hl'=>h l' (List.mem_cons_of_mem _ hl')
theorem Zht{n i:Nat}:∀{l:List Int}{used:Nat->Bool}{taken:List Int},(∀j,i<=j->j<n->(used j=true↔(j:Int)∈taken))->(∀p∈l,(i:Int)<=p/\p<n)->l.Pairwise (·<·)->
 (ZQ l taken=true/\take1 used l=none)\/(ZQ l taken=false/\∃now,take1 used l=some now/\∀j,i<=j->j<n->(now j=true↔(j:Int)∈taken++l))
 |[],used,taken,h,_,_=> .inr ⟨rfl,used,rfl,by simpa using h⟩
 |p::t,used,taken,h,hl,hp=>by
  obtain⟨q,rfl⟩:=Int.eq_ofNat_of_zero_le (show 0<=p by have:=(hl p List.mem_cons_self).1;omega);have hq:=hl q List.mem_cons_self;have hqu:=h q (by omega) (by omega);by_cases hu:used q=true
  ·exact .inl ⟨by simp[ZQ,hqu.1 hu],by rw[take1,if_pos (by simpa using hu)]⟩
  ·have Hv:¬(q:Int)∈taken:=fun h=>hu (hqu.2 h)
   have h2:∀j,i<=j->j<n->((used j||j==q)=true↔(j:Int)∈taken++[(q:Int)]):=by
    intro j h1 h3;simp only[Bool.or_eq_true,List.mem_append,List.mem_singleton,h j h1 h3,beq_iff_eq];exact or_congr Iff.rfl (by omega)
   have hc:ZQ t (taken++[(q:Int)])=ZQ t taken:=by
    unfold ZQ;rw[Bool.eq_iff_iff];simp only[List.any_eq_true,List.contains_iff_mem,List.mem_append,List.mem_singleton];constructor
    ·rintro⟨x,hx,h|rfl⟩
     ·exact⟨x,hx,h⟩
     ·exact absurd (List.rel_of_pairwise_cons hp hx) (by omega)
    ·rintro⟨x,hx,h⟩;exact⟨x,hx,.inl h⟩
   have Dz:ZQ ((q:Int)::t) taken=ZQ t taken:=by simp[ZQ,Hv]
   have e:take1 used ((q:Int)::t)=take1 (fun j=>used j||j==q) t:=by rw[take1,if_neg (by simpa using hu)];rfl
   rw[Dz,e];rcases Zht h2 (fun p hp=>hl p (List.mem_cons_of_mem _ hp)) (List.Pairwise.of_cons hp) with⟨a1,a2⟩|⟨a1,now,a2,a3⟩
   ·exact .inl ⟨by rw[<-hc];exact a1,a2⟩
   ·exact .inr ⟨by rw[<-hc];exact a1,now,a2,fun j h1 h3=>by rw[a3 j h1 h3];simp⟩
def Zhf(T:List (List Int))(i:Nat):List (List Int):=T.filter fun l=>decide ((i:Int)<=l.headD (-1))
structure Sets(T:List (List Int))(n:Nat):Prop where
 asc:∀l∈T,l.Pairwise (·<·)
 mem:∀l∈T,∀p∈l,0<=p/\p<(n:Int)
 ne:∀l∈T,l≠[]
 ord:T.Pairwise fun l l'=>l.headD (-1)<=l'.headD (-1)
theorem Zhh{i:Nat}:∀{T:List (List Int)},(∀l∈T,l≠[])->T.Pairwise (fun l l'=>l.headD (-1)<=l'.headD (-1))->Zhf T i=byL T i++Zhf T (i+1)
 |[],_,_=>rfl
 |l::T,A8,ho=>by
  have ih:=Zhh (i:=i) (T:=T) (fun l hl=>A8 l (List.mem_cons_of_mem _ hl)) (List.Pairwise.of_cons ho);obtain⟨x,t,rfl⟩:∃x t,l=x::t:=by
   cases l with
   |nil=>exact absurd rfl (A8 _ List.mem_cons_self)
   |cons x t=>exact⟨x,t,rfl⟩
  rcases Int.lt_trichotomy x (i:Int) with hx|hx|hx
  ·simp only[Zhf,byL] at ih⊢;rw[List.filter_cons_of_neg (by simp;omega),List.filter_cons_of_neg (by simp;omega),List.filter_cons_of_neg (by simp;omega)];exact ih
  ·subst hx;simp only[Zhf,byL] at ih⊢;rw[List.filter_cons_of_pos (by simp),List.filter_cons_of_pos (by simp),List.filter_cons_of_neg (by simp;omega),ih,List.cons_append]
  ·have hb:byL T i=[]:=by
    rw[byL,List.filter_eq_nil_iff];intro l' hl';have h1:=List.rel_of_pairwise_cons ho hl';cases l' with
    |nil=>simp
    |cons y t'=>simp at h1⊢;omega
   rw[hb,List.nil_append] at ih;have Ao:byL ((x::t)::T) i=[]:=by
    rw[byL,List.filter_cons_of_neg (by simp;omega)];exact hb
   rw[Ao,List.nil_append];simp only[Zhf] at ih⊢;rw[List.filter_cons_of_pos (by simp;omega),List.filter_cons_of_pos (by simp;omega),ih]
theorem Zh9{n d i:Nat}{T R:List (List Int)}{used:Nat->Bool}{taken:List Int}(hu:∀j,i<=j->j<n->(used j=true↔(j:Int)∈taken))
 (ih:∀used taken,(∀j,i+1<=j->j<n->(used j=true↔(j:Int)∈taken))->Zk T d (i+1) used=shareL [] R taken):
 ∀{B:List (List Int)}{m:List (List Int)},(∀l∈B,l.Pairwise (·<·)/\(∀p∈l,(i:Int)<=p/\p<n)/\(i:Int)∈l)->shareL m (B++R) taken=shareL (B.foldl (ZL used (Zk T d (i+1))) m) R taken
 |[],_,_=>rfl
 |l::B,m,hB=>by
  obtain⟨h1,h2,h3⟩:=hB l List.mem_cons_self;have hB':=fun l' hl'=>hB l' (List.mem_cons_of_mem _ hl')
  rw[List.cons_append,shareL,List.foldl_cons];rcases Zht hu h2 h1 with⟨a1,a2⟩|⟨a1,now,a2,a3⟩
  ·rw[if_pos a1,Zh9 hu ih hB'];have:ZL used (Zk T d (i+1)) m l=m:=by simp only[ZL,a2]
   rw[this]
  ·rw[if_neg (by rw[a1];decide)]
   have T9:shareL [] (B++R) (taken++l)=shareL [] R (taken++l):=Zhc fun l' hl'=>by
    unfold ZQ;rw[List.any_eq_true];exact⟨i,(hB' l' hl').2.2,by simp[h3]⟩
   rw[T9,Zh9 hu ih hB',<-ih now (taken++l) (fun j hj1 Ih=>a3 j (by omega) Ih)];have:ZL used (Zk T d (i+1)) m l=Z0q m (l::Zk T d (i+1) now):=by simp only[ZL,a2]
   rw[this];rfl
theorem Zh6{T:List (List Int)}{n:Nat}(hT:Sets T n):∀(d i:Nat)(used:Nat->Bool)(taken:List Int),i+d=n->(∀j,i<=j->j<n->(used j=true↔(j:Int)∈taken))->Zk T d i used=shareL [] (Zhf T i) taken
 |0,i,used,taken,hd,hu=>by
  have:Zhf T i=[]:=by
   rw[Zhf,List.filter_eq_nil_iff];intro l hl;cases l with
   |nil=>simp;omega
   |cons x t=>
    have:=(hT.mem _ hl x List.mem_cons_self).2;simp;omega
  rw[this];rfl
 |d+1,i,used,taken,hd,hu=>by
  have hu':∀j,i+1<=j->j<n->(used j=true↔(j:Int)∈taken):=fun j h1 h2=>hu j (by omega) h2
  have Qz:Z62 T:=by
   intro l hl h hh p hp;cases l with
   |nil=>cases hp
   |cons x t=>
    cases hh;rcases List.mem_cons.1 hp with rfl|hp
    ·exact Int.le_refl _
    ·exact Int.le_of_lt (List.rel_of_pairwise_cons (hT.asc _ hl) hp)
  rw[Zhh hT.ne hT.ord,Zh9 (B:=byL T i) hu (fun used taken h=>Zh6 hT d (i+1) used taken (by omega) h),shareL_best,<-Zh6 hT d (i+1) used taken (by omega) hu']
  ·rfl
  ·intro l hl;obtain⟨b1,t,rfl⟩:=Z6Q Qz hl;have hm:=(List.mem_filter.1 hl).1;exact⟨hT.asc _ hm,fun p hp=>⟨b1 p hp,(hT.mem _ hm p hp).2⟩,List.mem_cons_self⟩
theorem Zhy{T:List (List Int)}{n:Nat}(hT:Sets T n):Zhf T 0=T:=by
 rw[Zhf,List.filter_eq_self];intro l hl;cases l with
 |nil=>exact absurd rfl (hT.ne _ hl)
 |cons x t=>
  have:=(hT.mem _ hl x List.mem_cons_self).1;simpa using this
theorem ZhM{T:List (List Int)}{n:Nat}(hT:Sets T n)(used:Nat->Bool)(taken:List Int)(hu:∀j,j<n->(used j=true↔(j:Int)∈taken)):Zk T n 0 used=shareL [] T taken:=by
 rw[Zh6 hT n 0 used taken (by omega) fun j _ h=>hu j h,Zhy hT]
end Go.Proofs.Tryq
