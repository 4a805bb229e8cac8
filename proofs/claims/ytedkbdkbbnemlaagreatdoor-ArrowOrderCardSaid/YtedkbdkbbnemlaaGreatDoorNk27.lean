import Derived.Test.YtedkbdkbbnemlaaGreatDoorNk26
set_option linter.all false
namespace Go.Proofs.Tryq
set_option maxRecDepth 100000
set_option maxHeartbeats 4000000
open Go Go.Nk Go.RowKit
open Go.Maps (Keyed)
open Go.ChangeMaps (setBlock)
theorem Zif{X:Nat->Prop}(w:World){b:Nat}(hx:X b)(o:Obj):ExtX X w (setBlock w b o):=
 ⟨by rw[Z2s];exact Nat.le_refl _,fun k _ hn=>Z0O (fun e=>hn (by rw[e];exact hx)) _,rfl,rfl,rfl⟩
theorem Z65(a b c m:Int)(base:Option Addr)(n cap:Nat)(L:List Sf)(out:Nat->Bool)(w:World)(hG:Good a b c L)(A1:L.length=n)(hn:n<=9)(hm:2<=m/\m<=4)(hM:Meas w)(hS:RawA w base L):
 Calls prog 100 #[.agg #[.int .i64 a,.int .i64 b,.int .i64 c,.int .i64 m,.slice base n cap],.agg (Zs out)] w fun e w'=>∃v,e= .returned v/\Shr w.heap.size w' v (Zk (Zt a b c L n out m.toNat [] 0) n 0 out)/\Ext w w':=by
 have H5:=fun W (hW:Ext w W)=>ZbU a b c m base n cap L out W hG A1 hn hm (hM.ext hW) (hS.ext hW)
 have P6:∀l∈Zt a b c L n out m.toNat [] 0,l.Pairwise (·<·)/\(∀p∈l,0<=p/\p<(n:Int))/\l.length=m.toNat:=fun l hl=>by
  have:=Z2A a b c L n out m.toNat [] 0 l hl (by simp) List.Pairwise.nil;exact⟨this.1,this.2.1,by simpa using this.2.2⟩
 have S5:(Zt a b c L n out m.toNat [] 0).length<=100000:=by
  refine Nat.le_trans (Z3L a b c L n out hn m.toNat [] 0) ?_;have:m.toNat=2\/m.toNat=3\/m.toNat=4:=by omega
  rcases this with h|h|h<;>rw[h]<;>decide
 have hTe:Z62 (Zt a b c L n out m.toNat [] 0):=Z6R a b c L n m.toNat out;generalize Zt a b c L n out m.toNat [] 0=T at H5 P6 S5 hTe⊢;have Pc:= @run_makeMap prog;simp only[Zs] at H5⊢;go_enter func100,ntmps100
 go_wp2_with (
  go_at_call 115;refine(H5 _ (((((Ext.rfl' w).alloc _).alloc _).alloc _).alloc _)).mono ?_;rintro e w2 ⟨v,vs,rfl,Ek,I8,A7⟩
  have Ai:Ext w w2:=Ext.trans (((((Ext.rfl' w).alloc _).alloc _).alloc _).alloc _) A7;have g0:w2.heap[w.heap.size]? =some (.cells #[.int .i64 a,.int .i64 b,.int .i64 c,.int .i64 m,.slice base n cap] 120):=A7.get (by simp only[Z3,Z2];rw[if_neg (by omega),if_neg (by omega),if_neg (by omega),if_pos trivial]);have g1:w2.heap[w.heap.size+1]? =some (.cells (Zs out) 138):=A7.get (by simp only[Z3,Z2];rw[if_neg (by omega),if_neg (by omega),if_pos trivial];rfl);have g2:w2.heap[w.heap.size+1+1]? =some (.map #[] 0):=A7.get (by simp only[Z3,Z2];rw[if_neg (by omega),if_pos trivial]);have g3:w2.heap[w.heap.size+1+1+1]? =some (.cells #[.map (some (w.heap.size+1+1))] 182):=A7.get (by simp only[Z3,Z2];rw[if_pos trivial]);have Ny:w.heap.size+4<=w2.heap.size:=by have:=A7.size;simp only[Z2] at this;omega
  replace Ek:=Z05 Ek (show w.heap.size<=_ by simp only[Z2];omega);replace I8:=I8.mono fun u s h=>OwnI.le h (show w.heap.size<=_ by simp only[Z2];omega)
  clear A7;obtain⟨ao,cp,rfl⟩:∃ao cp,v= .slice ao vs.length cp:=by
   rcases Ek.2 with⟨rfl,h⟩|⟨g,cp,_,rfl,_⟩
   ·exact⟨none,0,by rw[h]⟩
   ·exact⟨_,cp,rfl⟩)
 clear H5 Pc;have Kz:=I8.length;rw[Kz] at Ek⊢;obtain⟨B,hB⟩:∃B,B=w.heap.size:=⟨_,rfl⟩;rw[<-hB] at Ek I8;have Ss:ByAt B w2.heap.size n (w.heap.size+1+1) (T.take 0) w2:=by
  refine⟨fun _=>none,⟨#[],0,g2,by simp,by simp,by simp,by simp⟩,fun i hi=>Shr.nil _ _,fun i j _ _ _=> .inl rfl,fun i hi k hk=>by cases hk⟩
 go_loopw [15] (fun v15 wr=>∃j:Nat,j<=T.length/\v15= .int .i64 j/\Map1 (w.heap.size+1+1) w2 wr/\ByAt B w2.heap.size n (w.heap.size+1+1) (T.take j) wr) (fun v15 _=>T.length - (intOf v15).toNat)
 case atStart=>exact⟨0,Nat.zero_le _,rfl,Map1.refl _ _,Ss⟩
 case round=>
  obtain⟨j,hj,rfl,hX,Xp⟩:=hrel;clear Ss;by_cases Im:j=T.length
  ·subst Im;rw[List.take_length] at Xp;obtain⟨G,Cx,Bq,_,_⟩:=Xp;have Bm:Ext w wr:=BelowX.ext hX Ai (by omega) Ai.size;have hwsz:=hX.size;have g5:=(hX.block _ (Z5 g0) (by omega)).trans g0;have g6:=(hX.block _ (Z5 g1) (by omega)).trans g1;have g7:=(hX.block _ (Z5 g3) (by omega)).trans g3;have z0:=Z0 g6 0;have z1:=Z0 g6 1;have z2:=Z0 g6 2;have z3:=Z0 g6 3;have z4:=Z0 g6 4;have z5:=Z0 g6 5;have z6:=Z0 g6 6;have z7:=Z0 g6 7;have z8:=Z0 g6 8;simp only[Zs,List.getElem?_toArray,List.getElem?_cons_zero,List.getElem?_cons_succ] at z0 z1 z2 z3 z4 z5 z6 z7 z8
   have Hr:∀W,W=(((wr.alloc (.map #[] 0)).alloc (.cells #[.map (some wr.heap.size)] 183)).alloc (.cells #[.func (.func 145) #[] #[.pointer (some ⟨w.heap.size,0,none⟩),.pointer (some ⟨wr.heap.size+1,0,none⟩),.pointer (some ⟨w.heap.size+1+1+1,0,none⟩),.pointer (some ⟨wr.heap.size+1+1,0,none⟩)]] 184))->
    Calls prog 145 #[.int .i64 0,.agg (Zs out),.pointer (some ⟨w.heap.size,0,none⟩),.pointer (some ⟨wr.heap.size+1,0,none⟩),.pointer (some ⟨w.heap.size+1+1+1,0,none⟩),.pointer (some ⟨wr.heap.size+1+1,0,none⟩)] W fun e W'=>∃v,e= .returned v/\Shr B W' v (Zk T n 0 out)/\Ext w W':=by
    intro W hW;have Az:Ext wr W:=(by rw[hW];exact(((Ext.rfl' wr).alloc _).alloc _).alloc _);have k0:W.heap[wr.heap.size]? =some (.map #[] 0):=(by rw[hW];simp only[Z3,Z2];rw[if_neg (by omega),if_neg (by omega),if_pos trivial]);have k1:W.heap[wr.heap.size+1]? =some (.cells #[.map (some wr.heap.size)] 183):=(by rw[hW];simp only[Z3,Z2];rw[if_neg (by omega),if_pos trivial]);have k2:W.heap[wr.heap.size+1+1]? =some (.cells #[.func (.func 145) #[] #[.pointer (some ⟨w.heap.size,0,none⟩),.pointer (some ⟨wr.heap.size+1,0,none⟩),.pointer (some ⟨w.heap.size+1+1+1,0,none⟩),.pointer (some ⟨wr.heap.size+1+1,0,none⟩)]] 184):=(by rw[hW];simp only[Z3,Z2];rw[if_pos trivial]);have Jz:MapAt prog 138 W wr.heap.size (fun _=>none):=⟨#[],0,k0,by simp,by simp,by simp,by simp⟩;have Hv:=Cx.lt
    refine(Z8B a b c m base n cap T B w.heap.size (wr.heap.size+1) (w.heap.size+1+1+1) (wr.heap.size+1+1) wr.heap.size (w.heap.size+1+1) hn hTe (by omega) (fun l hl=>⟨(P6 l hl).2.1,by rw[(P6 l hl).2.2];omega⟩) n 0 out W (fun _=>none) (by omega)
     ⟨Az.get g5,k1,Az.get g7,k2,⟨G,Cx.keep (Az.old _ Hv),fun i hi=>(Bq i hi).ext Az⟩,⟨by omega,by omega,by omega,by omega,by omega⟩,by have:=Az.size;omega⟩ ⟨Jz,fun key v hv=>by cases hv⟩).mono ?_
    rintro e W' ⟨v,G',rfl,hS',hK',hM'⟩;exact⟨v,rfl,hS',BelowX.ext hM' (Bm.trans Az) Bm.size (Bm.trans Az).size⟩
   simp only[Zs] at Hr;have Pc:= @run_makeMap prog;clear hX Bq Cx;have hl6:=Z5 g6;have P0:∀(o1 o2 o3:Obj)(k:Nat),(((wr.alloc o1).alloc o2).alloc o3).cell? ⟨w.heap.size+1,k,none⟩=wr.cell? ⟨w.heap.size+1,k,none⟩:=fun o1 o2 o3 k=>((((Ext.rfl' wr).alloc o1).alloc o2).alloc o3).cell hl6
   go_wp2_with (
    go_at_call 145;refine(Hr _ rfl).mono ?_;rintro e w5 ⟨v,rfl,Xq,B5⟩)
   go_ret;exact⟨v,rfl,by rw[<-hB];exact Xq,B5⟩
  ·have Cu:j<T.length:=by omega
   have hjv:j<vs.length:=by omega
   obtain⟨l,hl⟩:∃l,T[j]? =some l:=⟨_,List.getElem?_eq_getElem Cu⟩;obtain⟨u,hu,Ev⟩:=I8.get j l hl;obtain⟨Rw,C8,O1⟩:=P6 l (List.mem_of_getElem? hl);obtain⟨gr,cr,Sd,Se,Ky⟩:=Ek.form (by omega);obtain⟨rfl,rfl⟩:ao=some ⟨gr,0,none⟩/\cp=cr:=by simpa using Sd
   have La:=Ek.cells (g:=gr) rfl j u hu;rw[Z0c] at La;obtain⟨gl,cl,rfl,Sg,J8⟩:=Ev.form (by omega);obtain⟨p,hp⟩:∃p,l[0]? =some p:=⟨_,List.getElem?_eq_getElem (by omega)⟩;have Nw:=C8 p (List.mem_of_getElem? hp);obtain⟨i,rfl⟩:=Int.eq_ofNat_of_zero_le Nw.1;have Gq:=Ev.cells (g:=gl) rfl 0 (.int .i64 i) (by rw[List.getElem?_map,hp];rfl);rw[Z0c] at Gq;have An:i<n:=by omega
   obtain⟨es2,ck2,O6⟩:∃es ck,w2.heap[w.heap.size+1+1]? =some (.map es ck):=⟨_,_,g2⟩;have Xr:gr≠w.heap.size+1+1:=by
    rintro rfl;obtain⟨_,⟨h,_⟩|⟨_,_,_,h,_,hc,_⟩⟩:=Ek
    ·cases h
    ·cases h;rw[g2] at hc;cases hc
   have Su:gl≠w.heap.size+1+1:=by
    rintro rfl;obtain⟨_,⟨h,_⟩|⟨_,_,_,h,_,hc,_⟩⟩:=Ev
    ·cases h
    ·cases h;rw[g2] at hc;cases hc
   have Dg:∀(q:Addr),q.block<w2.heap.size->q.block≠w.heap.size+1+1->wr.cell? q=w2.cell? q:=fun q h1 h2=>by simp only[World.cell?,hX.block _ h1 h2]
   replace La:=(Dg ⟨gr,j,none⟩ Ky Xr).trans La;have hlc:wr.drew.cell? ⟨gl,0,none⟩=some (.int .i64 i):=(Dg ⟨gl,0,none⟩ J8 Su).trans Gq;have hyc:wr.drew.cell? ⟨w.heap.size+1+1+1,0,none⟩=some (.map (some (w.heap.size+1+1))):=(Dg ⟨w.heap.size+1+1+1,0,none⟩ (Z5 g3) (by simp)).trans (by rw[Z0 g3];rfl);obtain⟨G,Cx,Bq,Ci,Be⟩:=Xp;have Aq:=Bq i An;obtain⟨ra,rc,Od⟩:=Aq.form;obtain⟨Ec,rvs,Oe,hre⟩:=Aq;rw[Od] at Oe Ec;have N9:=hre.length;have Sv:wr.drew.ownsRow B 27 1 (.slice ra (byL (T.take j) i).length rc) rvs.length rvs:=Z00 Oe ((Ext.rfl' wr).drew);have Me:wr.drew.ownsRow B 27 1 (.slice ra (byL (T.take j) i).length rc) (byL (T.take j) i).length rvs:=by have h:=Sv;rw[N9] at h;exact h
   have Mf:∀W,W=wr.drew\/W=wr.drew.alloc (.cells #[.slice (some ⟨gl,0,none⟩) l.length cl] 27)->(Instr.lookup 182 (.map (some (w.heap.size+1+1))) (.int .i64 i) false).run prog W= .ok (.slice ra (byL (T.take j) i).length rc) W:=by
    intro W hW;obtain⟨kl,Dt⟩:=Z3M i (by omega);have Ff:MapAt prog 3 W (w.heap.size+1+1) G:=by
     rcases hW with rfl|rfl
     ·exact Cx.keep rfl
     ·exact Cx.keep (((Ext.rfl' wr).drew.alloc _).old _ Cx.lt)
    have:=Ff.lookup K3 u182 (Zap W) Dt false;rw[if_neg (by decide)] at this;rw[this];exact congrArg (fun v=>Result.ok v W) Od
   have Sw:B<=(wr.drew.alloc (.cells #[.slice (some ⟨gl,0,none⟩) l.length cl] 27)).heap.size:=by simp only[Z2];have:=hX.size;have:wr.drew.heap.size=wr.heap.size:=rfl;omega
   have hrlen:(byL (T.take j) i).length<=100000:=Nat.le_trans (List.length_filter_le _ _) (by rw[List.length_take];omega);obtain⟨A,hA⟩:∃A:Value->World->Prop,A=fun v w3=>w3.ownsRow B 27 1 v (rvs.length+1) (rvs++[.slice (some ⟨gl,0,none⟩) l.length cl])/\(wr.drew.alloc (.cells #[.slice (some ⟨gl,0,none⟩) l.length cl] 27)).grownBy w3 (Value.ownBlock (.slice ra (byL (T.take j) i).length rc))/\((v.ownBlock=Value.ownBlock (.slice ra (byL (T.take j) i).length rc))\/∀k,v.ownBlock=some k->(wr.drew.alloc (.cells #[.slice (some ⟨gl,0,none⟩) l.length cl] 27)).heap.size<=k):=⟨_,rfl⟩
   have Xs:∀v w3,A v w3->w3.ownsRow B 27 1 v (rvs.length+1) (rvs++[.slice (some ⟨gl,0,none⟩) l.length cl])/\(wr.drew.alloc (.cells #[.slice (some ⟨gl,0,none⟩) l.length cl] 27)).grownBy w3 (Value.ownBlock (.slice ra (byL (T.take j) i).length rc))/\((v.ownBlock=Value.ownBlock (.slice ra (byL (T.take j) i).length rc))\/∀k,v.ownBlock=some k->(wr.drew.alloc (.cells #[.slice (some ⟨gl,0,none⟩) l.length cl] 27)).heap.size<=k):=fun v w3 h=>by rw[hA] at h;exact h
   have hA2:∀v w3,w3.ownsRow B 27 1 v (rvs.length+1) (rvs++[.slice (some ⟨gl,0,none⟩) l.length cl])/\(wr.drew.alloc (.cells #[.slice (some ⟨gl,0,none⟩) l.length cl] 27)).grownBy w3 (Value.ownBlock (.slice ra (byL (T.take j) i).length rc))/\((v.ownBlock=Value.ownBlock (.slice ra (byL (T.take j) i).length rc))\/∀k,v.ownBlock=some k->(wr.drew.alloc (.cells #[.slice (some ⟨gl,0,none⟩) l.length cl] 27)).heap.size<=k)->A v w3:=fun v w3 h=>by rw[hA];exact h
   clear hA;have Sy:∀v w3,A v w3->∀k,k<w2.heap.size->w3.heap[k]? =wr.heap[k]? :=by
    intro v w3 h k hk;obtain⟨_,hg,_⟩:=Xs v w3 h;rw[hg.block k (by simp only[Z2];have:=hX.size;have:wr.drew.heap.size=wr.heap.size:=rfl;omega) (fun e=>by have:=Be i An k (by rw[Od];exact e.symm);omega)];rw[Z3,if_neg (by have:=hX.size;have:wr.drew.heap.size=wr.heap.size:=rfl;omega)];rfl
   have Aa:∀v w3,A v w3->∃o,(Instr.mapUpdate 182 (.map (some (w.heap.size+1+1))) (.int .i64 i) v).run prog w3= .ok () (setBlock w3 (w.heap.size+1+1) o)/\ByAt B w2.heap.size n (w.heap.size+1+1) (T.take (j+1)) (setBlock w3 (w.heap.size+1+1) o):=by
    intro v w3 h;obtain⟨h1,h2,h3⟩:=Xs v w3 h;rw[Z0G hl];have Q0:Ext wr (wr.drew.alloc (.cells #[.slice (some ⟨gl,0,none⟩) l.length cl] 27)):=(Ext.rfl' wr).drew.alloc _
    exact ByAt.step (W:=wr.drew.alloc (.cells #[.slice (some ⟨gl,0,none⟩) l.length cl] 27)) (G:=G) (Cx.keep (Q0.old _ Cx.lt)) (fun q hq=>(Bq q hq).ext Q0) Ci Be (Nat.le_trans hX.size Q0.size) An (by omega) (by rw[List.head?_eq_getElem?];exact hp)
     (Z00 (Z2R Ev hX g2) Q0) (by rw[Od];exact Z00 Oe Q0) (hre.mono fun u s h=>Z00 h Q0) h1 (by rw[Od];exact h2) (by rw[Od];exact h3)
   have Kq:¬((l.length:Int)<=0):=by omega
   have hlne:¬l=[]:=by rintro rfl;simp at Kq
   clear O1;clear Dg;go_wp2_with fail;refine Zia (T:=Value×World×Obj) (fun z=>[(19,.map (some (w.heap.size+1+1))),(20,.slice (some ⟨gl,0,none⟩) l.length cl),(21,.pointer (some ⟨gl,0,none⟩)),(22,.int .i64 i),(23,.map (some (w.heap.size+1+1))),(24,.slice (some ⟨gl,0,none⟩) l.length cl),(25,.pointer (some ⟨gl,0,none⟩)),(26,.int .i64 i),(27,.slice ra (byL (T.take j) i).length rc),(28,.slice (some ⟨gl,0,none⟩) l.length cl),(29,.slice (some ⟨wr.drew.heap.size,0,none⟩) 1 1),(30,z.1)]) (fun z W=>A z.1 z.2.1/\W=setBlock z.2.1 (w.heap.size+1+1) z.2.2/\ByAt B w2.heap.size n (w.heap.size+1+1) (T.take (j+1)) (setBlock z.2.1 (w.heap.size+1+1) z.2.2)) ?_ ?_
   ·refine Zhk (ExtX fun q=>wr.heap.size<=q\/Value.ownBlock (.slice ra (byL (T.take j) i).length rc)=some q\/q=w.heap.size+1+1) (by kernel_rfl) ?_;have hyd:=((Ext.rfl' wr).drew).cellS hyc;have hld:=((Ext.rfl' wr).drew).cellS hlc;have Xt:∀k,Value.ownBlock (.slice ra (byL (T.take j) i).length rc)=some k->w2.heap.size<=k:=fun k hk=>Be i An k (by rw[Od];exact hk)
    have hy3:=Z5 g3;have hyN:¬(wr.heap.size<=w.heap.size+1+1+1\/Value.ownBlock (.slice ra (byL (T.take j) i).length rc)=some (w.heap.size+1+1+1)\/w.heap.size+1+1+1=w.heap.size+1+1):=by
     rintro(h|h|h)
     ·have:=hX.size;omega
     ·have:=Xt _ h;omega
     ·omega
    have X0:¬(wr.heap.size<=gl\/Value.ownBlock (.slice ra (byL (T.take j) i).length rc)=some gl\/gl=w.heap.size+1+1):=by
     rintro(h|h|h)
     ·have:=hX.size;omega
     ·have:=Xt _ h;omega
     ·exact Su h
    have gy:=GrE.cell (X:=fun q=>wr.heap.size<=q\/Value.ownBlock (.slice ra (byL (T.take j) i).length rc)=some q\/q=w.heap.size+1+1) hyN hyd;have gz:=GrE.cell (X:=fun q=>wr.heap.size<=q\/Value.ownBlock (.slice ra (byL (T.take j) i).length rc)=some q\/q=w.heap.size+1+1) X0 hld;clear hyN X0 Xt;refine Zh8 (ExtX.pre _) [0,1,2,3,4,5,6,7,9] (by kernel_rfl) (by kernel_rfl) ?_;simp only[ZeD,List.getElem?_cons_succ,List.getElem?_cons_zero,List.cons_append,List.nil_append]
    repeat (go_big_quiet_step (fail))
    refine wpQuiet_nil ?_;clear gy gz;refine Zir 8 10 rfl rfl (by kernel_rfl) rfl rfl ?_ ?_
    ·refine Zf3 ⟨.slice ra (byL (T.take j) i).length rc,wr.drew,by have G8:=Mf (wr.drew) (.inl rfl);simp[go_sem,execOp,Act.eval,G8],Go.Nk.Ext.toX (Ext.rfl' _) _,?_⟩;go_simp;refine Zh4 10 rfl (by kernel_rfl) rfl ?_;refine Zf3 ⟨.slice (some ⟨wr.drew.heap.size,0,none⟩) 1 1,wr.drew.alloc (.cells #[.slice (some ⟨gl,0,none⟩) l.length cl] 27),by simp[go_sem,execOp,Act.eval],Go.Nk.Ext.toX ((Ext.rfl' _).alloc _) _,?_⟩;go_simp;refine Zh4 11 rfl (by kernel_rfl) rfl ?_;refine Z3V _ _ 57 rfl B 27 Tryz.t27 (.slice none 0 0) 1 24 u57 i27 t27z t27s t27b rfl (by omega) (.slice ra (byL (T.take j) i).length rc) (byL (T.take j) i).length rvs rfl (Me.alloc _) ⟨wr.drew.heap.size,0,none⟩ 1 1 [.slice (some ⟨gl,0,none⟩) l.length cl] rfl rfl (Z1N _ _ _) (by intro u hu;rw[List.mem_singleton.1 hu];rfl) (by simp[maxLen];omega) (by omega) Sw (fun v' w3 Ao Jd Of=>⟨Zhv Jd (fun k hk=> .inr (.inl hk)),?_⟩);have Sz:=hA2 v' w3 ⟨by rw[N9];exact Ao,Jd,Of⟩;obtain⟨o,Cq,K8⟩:=Aa v' w3 Sz;go_simp;refine Zh4 12 rfl (by kernel_rfl) rfl (Zie ⟨setBlock w3 (w.heap.size+1+1) o,by simp[go_sem,execOp,Act.eval,Cq],Zif w3 (.inr (.inr rfl)) o,?_⟩);go_simp;refine ZhF (by kernel_rfl) ?_;exact⟨rfl,v',(by simp only[Zip,Act.put];go_simp),w3,Sz,o,rfl,(by rw[hB] at K8;exact K8)⟩
    ·refine Zf3 ⟨.slice (some ⟨wr.drew.heap.size,0,none⟩) 1 1,wr.drew.alloc (.cells #[.slice (some ⟨gl,0,none⟩) l.length cl] 27),by simp[go_sem,execOp,Act.eval],Go.Nk.Ext.toX ((Ext.rfl' _).alloc _) _,?_⟩;go_simp;refine Zh4 8 rfl (by kernel_rfl) rfl ?_;refine Zf3 ⟨.slice ra (byL (T.take j) i).length rc,wr.drew.alloc (.cells #[.slice (some ⟨gl,0,none⟩) l.length cl] 27),by have G8:=Mf (wr.drew.alloc (.cells #[.slice (some ⟨gl,0,none⟩) l.length cl] 27)) (.inr rfl);simp only[World.alloc_drew] at G8;simp[go_sem,execOp,Act.eval,G8],Go.Nk.Ext.toX (Ext.rfl' _) _,?_⟩;go_simp;refine Zh4 11 rfl (by kernel_rfl) rfl ?_;refine Z3V _ _ 57 rfl B 27 Tryz.t27 (.slice none 0 0) 1 24 u57 i27 t27z t27s t27b rfl (by omega) (.slice ra (byL (T.take j) i).length rc) (byL (T.take j) i).length rvs rfl (Me.alloc _) ⟨wr.drew.heap.size,0,none⟩ 1 1 [.slice (some ⟨gl,0,none⟩) l.length cl] rfl rfl (Z1N _ _ _) (by intro u hu;rw[List.mem_singleton.1 hu];rfl) (by simp[maxLen];omega) (by omega) Sw (fun v' w3 Ao Jd Of=>⟨Zhv Jd (fun k hk=> .inr (.inl hk)),?_⟩);have Sz:=hA2 v' w3 ⟨by rw[N9];exact Ao,Jd,Of⟩;obtain⟨o,Cq,K8⟩:=Aa v' w3 Sz;go_simp;refine Zh4 12 rfl (by kernel_rfl) rfl (Zie ⟨setBlock w3 (w.heap.size+1+1) o,by simp[go_sem,execOp,Act.eval,Cq],Zif w3 (.inr (.inr rfl)) o,?_⟩)
     go_simp;refine ZhF (by kernel_rfl) ?_;exact⟨rfl,v',(by simp only[Zip,Act.put];go_simp),w3,Sz,o,rfl,(by rw[hB] at K8;exact K8)⟩
   ·rintro⟨v9,w9,o9⟩ W ⟨Xu,Mg,Og⟩;simp only at Xu Mg Og;simp only[Zip,Act.put];replace Mg:Hid (W=setBlock w9 (w.heap.size+1+1) o9):=Mg;go_simp;replace Mg:=Mg.out;have T0:Map1 (w.heap.size+1+1) w2 W:=by
     obtain⟨_,k1,_⟩:=Xs _ _ Xu;rw[Mg];have Ht:=k1.size;simp only[Z2] at Ht;have K1:wr.drew.heap.size=wr.heap.size:=rfl;exact⟨k1.os.trans hX.os,k1.tape.trans hX.tape,k1.output.trans hX.output,by rw[Z2s];have:=hX.size;omega,fun k hk A8=>(Z0O A8 _).trans ((Sy _ _ Xu k hk).trans (hX.block k hk A8))⟩
    rw[<-Mg] at Og;clear Mg;go_wp2;exact⟨⟨j+1,by omega,by push_cast;rfl,T0,Og⟩,by simp[intOf];omega⟩
end Go.Proofs.Tryq
namespace Go.Proofs.Tryq
set_option maxRecDepth 100000
set_option maxHeartbeats 4000000
open Go Go.Nk Go.RowKit
theorem Z7I{w:World}{b:Nat}{x:Int}(h:w.heap[b]? =some (.cells #[.int .i64 x] 3)):RawI w (some ⟨b,0,none⟩) [x]:=by
 intro i y hy
 match i,hy with
 |0,hy=>
  obtain rfl:=Option.some.inj hy;exact⟨b,0,rfl,Z5 h,by rw[Z0 h];rfl⟩
def Z1Y(a b c m:Int)(L:List Sf)(k:Int):Int:=if Zo a b c m L [k]=0 then(Zk (Zt a b c L L.length (fun j=>j==k.toNat) m.toNat [] 0) L.length 0 (fun j=>j==k.toNat)).length else 0
theorem Z6S(a b c m:Int)(base:Option Addr)(n cap:Nat)(L:List Sf)(k:Int)(w:World)(A1:L.length=n)(hn:n<=20)(hM:Meas w)(hS:RawA w base L):
 Calls prog 59 #[.agg #[.int .i64 a,.int .i64 b,.int .i64 c,.int .i64 m,.slice base n cap],.int .i64 k] w fun e w'=>e= .returned (.tuple #[.int .i64 (Z1Y a b c m L k),.int .i64 (Zo a b c m L [k])])/\Ext w w':=by
 have ho:=fun W hW ad hl=>Z3c a b c m base n cap L ad 1 1 [k] W A1 hn rfl (by omega) (hM.ext hW) (hS.ext hW) hl
 by_cases h:Zo a b c m L [k]=0
 ·obtain⟨hG,An,Qr,hm⟩:=Z1n h;have hk:=An k (by simp);obtain⟨q,rfl⟩:=Int.eq_ofNat_of_zero_le hk.1;have hq:q<9:=by omega
  have Qp:(0:Int)<=(q:Int):=by omega
  have Oc:(q:Int)<9:=by omega
  have hF:Z1Y a b c m L q=(Zk (Zt a b c L n (fun j=>j==q) m.toNat [] 0) n 0 (fun j=>j==q)).length:=by rw[Z1Y,if_pos h,A1,Int.toNat_natCast]
  have B9:=fun W hW=>Z65 a b c m base n cap L (fun j=>j==q) W hG A1 (by omega) hm (hM.ext hW) (hS.ext hW)
  rw[h] at ho⊢;rw[hF];generalize Zk (Zt a b c L n (fun j=>j==q) m.toNat [] 0) n 0 (fun j=>j==q)=Bs at B9⊢;simp only[Zs] at B9;clear hF h hk An;have hqs:q=3\/q=0\/q=1\/q=2\/q=4\/q=5\/q=6\/q=7\/q=8:=by omega
  clear hq Qp Oc;rcases hqs with rfl|rfl|rfl|rfl|rfl|rfl|rfl|rfl|rfl
  all_goals
   go_enter func59,ntmps59
   go_wp2_with (first
    |(go_at_call 86;refine(ho _ (by(repeat (with_reducible first|assumption|exact Ext.rfl' _|apply Ext.alloc|apply Ext.drew))) _ (Z7I (by simp only[Z3,Z2];exact if_pos trivial))).mono ?_;rintro e w2 ⟨rfl,A7⟩
      have Ai:Ext w w2:=Ext.trans (by(repeat (with_reducible first|assumption|exact Ext.rfl' _|apply Ext.alloc|apply Ext.drew))) A7)
    |(go_at_call 100;refine(B9 _ (by(repeat (with_reducible first|assumption|exact Ext.rfl' _|apply Ext.alloc|apply Ext.drew|exact Ext.setCell (by(repeat (with_reducible first|assumption|exact Ext.rfl' _|apply Ext.alloc|apply Ext.drew))) _ _ (by simp only[Z2];have:=Ai.size;omega))))).mono ?_;rintro e w3 ⟨v,rfl,T1,Am⟩
      obtain⟨ao,cp,rfl⟩:=T1.form))
   go_ret2;exact⟨rfl,((Ai.alloc _).alloc _).trans Am⟩
 ·have hF:Z1Y a b c m L k=0:=by rw[Z1Y,if_neg h]
  have A8:(Zo a b c m L [k] !=0)=true:=by simpa using h
  rw[hF];generalize Zo a b c m L [k]=f at ho A8⊢;go_enter func59,ntmps59
  go_wp2_with (
   go_at_call 86;refine(ho _ (by(repeat (with_reducible first|assumption|exact Ext.rfl' _|apply Ext.alloc|apply Ext.drew))) _ (Z7I (by simp only[Z3,Z2];exact if_pos trivial))).mono ?_;rintro e w2 ⟨rfl,A7⟩
   have Ai:Ext w w2:=Ext.trans (by(repeat (with_reducible first|assumption|exact Ext.rfl' _|apply Ext.alloc|apply Ext.drew))) A7)
  go_ret2;exact⟨rfl,Ai.alloc _⟩
end Go.Proofs.Tryq
namespace Go.Proofs.Tryq
open Go Go.Nk Go.RowKit
def Z66(a b c m:Int)(L:List Sf):List (List Int):=if Zo a b c m L []=0 then Zk (Zt a b c L L.length (fun _=>false) m.toNat [] 0) L.length 0 (fun _=>false) else[]
def inL(S:List (List Int))(i:Nat):Bool:=S.any fun l=>l.contains (i:Int)
def Z32(n:Nat)(S:List (List Int)):List Int:=((List.range n).filter fun i=> !inL S i).map fun(i:Nat)=>(i:Int)
def Z6T(a b c m:Int)(L:List Sf):List Int:=if Zo a b c m L []=0 then Z32 L.length (Z66 a b c m L) else[]
theorem ZbX(S:List (List Int))(l:List Int)(i:Nat):inL (S++[l]) i=(inL S i||l.contains (i:Int)):=by simp[inL,List.any_append]
theorem Z8C(S:List (List Int))(i:Nat):Z32 (i+1) S=if inL S i=true then Z32 i S else Z32 i S++[(i:Int)]:=by
 rw[Z32,List.range_succ,List.filter_append,List.map_append];cases h:inL S i<;>simp[Z32,h]
theorem Zaq(n:Nat)(S:List (List Int)):(Z32 n S).length<=n:=by
 have:=List.length_filter_le (fun i=> !inL S i) (List.range n);simpa[Z32] using this
theorem Z3O{T:List (List Int)}:∀(d i:Nat)(u:Nat->Bool),∀l∈Zk T d i u,l∈T
 |0,_,_,l,h=>by cases h
 |d+1,i,u,l,h=>by
  have hb:∀(P:List Int->Prop)(a b:List (List Int)),(∀l∈a,P l)->(∀l∈b,P l)->∀l∈Z0q a b,P l:=fun P a b h h'=>by unfold Z0q;split<;>assumption
  have hf:∀(B mo:List (List Int)),(∀l∈B,l∈T)->(∀l∈mo,l∈T)->∀l∈B.foldl (ZL u (Zk T d (i+1))) mo,l∈T:=by
   intro B
   induction B with
   |nil=>exact fun mo _ h=>h
   |cons x B ih=>
    intro mo hB hm;rw[List.foldl_cons];refine ih _ (fun l hl=>hB l (List.mem_cons_of_mem _ hl)) ?_;unfold ZL;split
    ·exact hm
    ·refine hb _ _ _ hm fun l hl=> ?_
     rcases List.mem_cons.1 hl with rfl|hl
     ·exact hB _ List.mem_cons_self
     ·exact Z3O d (i+1) _ l hl
  rw[Zk] at h;exact hb _ _ _ (hf _ _ (fun l hl=>(List.mem_filter.1 hl).1) (fun l hl=>by cases hl)) (fun l hl=>Z3O d (i+1) u l hl) l h
theorem Zdw{B:Nat}{w:World}{v:Value}{ls:List (List Int)}(h:Shr B w v ls){j:Nat}{l:List Int}(hl:ls[j]? =some l)(h0:l≠[]):
 ∃gr cr gl cl,v= .slice (some ⟨gr,0,none⟩) ls.length cr/\B<=gr/\gr<w.heap.size/\w.cell? ⟨gr,j,none⟩=some (.slice (some ⟨gl,0,none⟩) l.length cl)/\OwnI B w (.slice (some ⟨gl,0,none⟩) l.length cl) l/\B<=gl/\gl<w.heap.size/\l.length<=cl:=by
 obtain⟨_,vs,h1,h2⟩:=h;have A1:=h2.length;have hj:j<ls.length:=(List.getElem?_eq_some_iff.1 hl).1;obtain⟨gr,cr,rfl,hb,hg⟩:=h1.form (by omega);obtain⟨u,hu,Ev⟩:=h2.get j l hl;have hc:=h1.cells (g:=gr) rfl j u hu;rw[Z0c] at hc;have G1:0<l.length:=List.length_pos_iff.2 h0;obtain⟨_,⟨h,_⟩|⟨gl,cl,cur,rfl,A9,Ks,Eg,_⟩⟩:=Ev
 ·subst h;rename_i hx hz;simp at hz;exact absurd hz h0
 ·rename_i hx hq;exact⟨gr,cr,gl,cl,by rw[A1],hb,hg,hc,⟨hx,.inr ⟨gl,cl,cur,rfl,A9,Ks,Eg,hq⟩⟩,A9,Z5 Ks,Eg⟩
end Go.Proofs.Tryq
namespace Go.Proofs.Tryq
set_option maxRecDepth 100000
set_option maxHeartbeats 4000000
open Go Go.Nk Go.RowKit
theorem Shr.belowX{B ib:Nat}{w w':World}{v:Value}{ls:List (List Int)}(h:Shr B w v ls)(hX:BelowX w.heap.size ib w w')(Pg:ib<B):Shr B w' v ls:=by
 have key:∀{e:TypeId}{v:Value}{n:Nat}{xs:List Value},w.ownsRow B e 1 v n xs->w'.ownsRow B e 1 v n xs:=fun h=>Z3d h fun k hv=>hX.block k (h.lt k hv).2 (by have:=(h.lt k hv).1;omega)
 obtain⟨h0,vs,h1,h2⟩:=h;exact⟨h0,vs,key h1,h2.mono fun u s h=>key h⟩
theorem Shr.le{B B':Nat}{w:World}{v:Value}{ls:List (List Int)}(h:Shr B w v ls)(hB:B'<=B):Shr B' w v ls:=by
 obtain⟨h0,vs,h1,h2⟩:=h;exact⟨h0,vs,Z05 h1 hB,h2.mono fun u s h=>OwnI.le h hB⟩
theorem BelowX.of_ext{B ib:Nat}{a b c:World}(h:BelowX B ib a b)(hE:Ext b c)(hB:B<=b.heap.size):BelowX B ib a c:=
 h.trans (Z15 hE hB)
theorem ZbY(a b c m:Int)(base:Option Addr)(n cap:Nat)(L:List Sf)(w:World)(A1:L.length=n)(hn:n<=20)(hM:Meas w)(hS:RawA w base L):
 Calls prog 37 #[.agg #[.int .i64 a,.int .i64 b,.int .i64 c,.int .i64 m,.slice base n cap]] w fun e w'=>∃v1 v2,e= .returned (.tuple #[v1,v2,.int .i64 (Zo a b c m L [])])/\Shr w.heap.size w' v1 (Z66 a b c m L)/\OwnI w.heap.size w' v2 (Z6T a b c m L)/\Ext w w':=by
 have ho:=fun W hW=>Z3c a b c m base n cap L none 0 0 [] W A1 hn rfl (by omega) (hM.ext hW) (hS.ext hW) (fun i x hx=>by simp at hx)
 by_cases h:Zo a b c m L []=0
 ·obtain⟨hG,_,Qr,hm⟩:=Z1n h;have Gd:Z66 a b c m L=Zk (Zt a b c L n (fun _=>false) m.toNat [] 0) n 0 (fun _=>false):=by rw[Z66,if_pos h,A1]
  have A0:Z6T a b c m L=Z32 n (Z66 a b c m L):=by rw[Z6T,if_pos h,A1]
  have B9:=fun W hW=>Z65 a b c m base n cap L (fun _=>false) W hG A1 (by omega) hm (hM.ext hW) (hS.ext hW)
  have C8:∀l∈Zk (Zt a b c L n (fun _=>false) m.toNat [] 0) n 0 (fun _=>false),(∀p∈l,0<=p/\p<(n:Int))/\l.length=m.toNat:=fun l hl=>by
   have:=Z2A a b c L n (fun _=>false) m.toNat [] 0 l (Z3O _ _ _ l hl) (by simp) List.Pairwise.nil;exact⟨this.2.1,by simpa using this.2.2⟩
  have hSl:=Z2C (Zt a b c L n (fun _=>false) m.toNat [] 0) n 0 (fun _=>false);rw[A0,Gd];rw[h] at ho⊢;generalize Zk (Zt a b c L n (fun _=>false) m.toNat [] 0) n 0 (fun _=>false)=S at B9 C8 hSl⊢;simp only[Zs] at B9;clear Gd A0 h;go_enter func37,ntmps37
  go_wp2_with (first
   |(go_at_call 86;refine(ho _ (by(repeat (with_reducible first|assumption|exact Ext.rfl' _|apply Ext.alloc|apply Ext.drew)))).mono ?_;rintro e w2 ⟨rfl,A7⟩
     have Ai:Ext w w2:=Ext.trans (by(repeat (with_reducible first|assumption|exact Ext.rfl' _|apply Ext.alloc|apply Ext.drew))) A7;have Xv:w2.heap[w.heap.size]? =some (.cells #[.int .i64 a,.int .i64 b,.int .i64 c,.int .i64 m,.slice base n cap] 26):=A7.get (by simp only[Z3,Z2];exact if_pos trivial))
   |(go_at_call 100;refine(B9 _ (by(repeat (with_reducible first|assumption|exact Ext.rfl' _|apply Ext.alloc|apply Ext.drew)))).mono ?_;rintro e w3 ⟨v,rfl,T1,Am⟩
     obtain⟨ao,cp,rfl⟩:=T1.form;have B5:Ext w w3:=Ext.trans (by(repeat (with_reducible first|assumption|exact Ext.rfl' _|apply Ext.alloc|apply Ext.drew))) Am;have Ah:=((Ext.rfl' w2).alloc _).alloc _ |>.trans Am |>.get Xv
     have Pg:w3.heap[w2.heap.size+1]? =some (.cells (Zs (inL (S.take 0))) 138):=Am.get (by simp only[Z3,Z2];exact if_pos trivial);simp only[Z2] at T1))
  have Xw:=Z5 Pg;clear ho B9 A7 Am;have T2:=Z0 Ah 4;simp only[List.getElem?_toArray,List.getElem?_cons_zero,List.getElem?_cons_succ] at T2;go_loopw [2,24] (fun v2 v24 wr=>∃j,j<=S.length/\v24= .int .i64 j/\BelowX w3.heap.size (w2.heap.size+1) w3 wr/\wr.heap[w2.heap.size+1]? =some (.cells (Zs (inL (S.take j))) 138)/\Shr w3.heap.size wr v2 (S.take j)) (fun _ v24 _=>S.length - (intOf v24).toNat)
  case atStart=>exact⟨0,Nat.zero_le _,rfl,BelowX.refl _ _ _,Pg,Shr.nil _ _⟩
  case round=>
   obtain⟨j,hj,rfl,hX,hi,I7⟩:=hrel;clear Pg;by_cases Im:j=S.length
   ·subst Im;rw[List.take_length] at hi I7;have E2:wr.cell? ⟨w.heap.size,4,none⟩=some (.slice base n cap):=by
     rw[<-T2];simp only[World.cell?,hX.block w.heap.size (Z5 Ah) (by have:=Ai.size;omega)]
    have C6:=hX.size;go_wp2;obtain⟨wo,rfl⟩:∃wo:World,wo=wr:=⟨_,rfl⟩;go_loopw [3,46] (fun v3 v46 wz=>∃i:Nat,i<=n/\v46= .int .i64 i/\Ext wo wz/\OwnI wo.heap.size wz v3 (Z32 i S)) (fun _ v46 _=>n - (intOf v46).toNat)
    case atStart=>exact⟨0,Nat.zero_le _,rfl,Ext.rfl' _,World.ownsRow_nil _ _ _ _⟩
    case round=>
     obtain⟨i,An,rfl,Q1,Ae⟩:=hrel;by_cases Jt:i=n
     ·subst Jt;go_wp2;refine bodyPost_ret (results_tmp3 rfl _ _ _) rfl ?_;refine⟨_,_,rfl,(I7.ext Q1).le (by have:=B5.size;omega),Ae.le (by have:=B5.size;omega),?_⟩;exact(BelowX.ext hX B5 (by have:=Ai.size;omega) B5.size).trans Q1
     ·have A3:i<n:=(by omega);have U3:=Z0 (Q1.get hi) i;rw[Z1u _ i (by omega)] at U3;have Cd:(0:Int)<=(i:Int):=(by omega);have hi9:(i:Int)<9:=(by omega);have hiL:(i:Int)<(n:Int):=(by omega);have C7:=Zaq i S;have hsz2:=Q1.size;have Jw:=Z8C S i;cases hb:inL S i with
      |true=>
       rw[hb] at U3 Jw;rw[if_pos rfl] at Jw;rw[<-Jw] at Ae;clear Jw C7;go_wp2;exact⟨⟨i+1,by omega,by push_cast;rfl,Q1,Ae⟩,by simp[intOf];omega⟩
      |false=>
       rw[hb] at U3 Jw;rw[if_neg (by decide)] at Jw;have Xx:Hid (Z32 (i+1) S=Z32 i S++[(i:Int)]):=Jw;clear Jw
       go_wp2_with (
        at_builtin
        refine wpList_append_own _ rfl _ _ _ rfl wo.heap.size 3 Tryz.t3 (.int .i64 0) 1 8 Go.Proofs.Tryq.u27 i3 t3z t3s t3b rfl (by omega) _ _ _ rfl (Ae.alloc _) ⟨wr.heap.size,0,none⟩ 1 1 [.int .i64 i] rfl rfl (Z1N _ _ _) (by intro u hu;simp at hu;subst hu;rfl) (by simp[maxLen];omega) (by omega) (by simp;omega) ?_;intro v' w5 H6 F9 _;have Bc:Ext wo w5:=(Q1.alloc _).grown F9 (fun k hk=>(Ae.lt k hk).1))
       exact⟨⟨i+1,by omega,by push_cast;rfl,Bc,by rw[Xx.out];simpa[OwnI] using H6⟩,by simp[intOf];omega⟩
   ·have Cu:j<S.length:=(by omega);obtain⟨l,hl⟩:∃l,S[j]? =some l:=⟨_,List.getElem?_eq_getElem Cu⟩;obtain⟨Pp,O1⟩:=C8 l (List.mem_of_getElem? hl);have Hz:0<l.length:=(by omega);have Kv:l.length<=9:=(by omega);clear O1;obtain⟨gr,cr,gl,cl,Sd,Se,Ky,La,Ev,Sg,J8,Eg⟩:=Zdw T1 hl (by rintro rfl;simp at Hz);obtain⟨rfl,rfl⟩:ao=some ⟨gr,0,none⟩/\cp=cr:=(by simpa using Sd);replace La:wr.cell? ⟨gr,j,none⟩=some (.slice (some ⟨gl,0,none⟩) l.length cl):=by
     rw[<-La];simp only[World.cell?,hX.block gr Ky (by omega)]
    have Gq:∀W,Ext wr W->∀(j:Nat) u,(l.map (Value.int .i64))[j]? =some u->W.cell? ⟨gl,j,none⟩=some u:=by
     intro W hW j u hu;have:=Ev.cells (g:=gl) rfl j u hu;rw[Z0c] at this;refine hW.cellS ?_;rw[<-this];simp only[World.cell?,hX.block gl J8 (by omega)]
    have Je:=fun W hW=>Z60 gl l.length cl l W rfl Hz (by omega) Eg (by have:=hX.size;have:=(hW:Ext wr W).size;omega) (Gq W hW)
    obtain⟨a2,c2,rfl⟩:=I7.form;have Oh:=I7;obtain⟨Uv,vs,Ek,I8⟩:=I7;have htl:(S.take j).length=j:=(by rw[List.length_take];omega);have Kz:=I8.length;rw[Kz] at Ek;rw[htl] at Ek Uv Kz Oh⊢;have W6:(0:Int)<=(j:Int):=(by omega);have hjL:(j:Int)<(S.length:Int):=by omega
    go_wp2_with (first
     |(go_at_call 101;refine(Je _ (by(repeat (with_reducible first|assumption|exact Ext.rfl' _|apply Ext.alloc|apply Ext.drew)))).mono ?_;rintro e w4 ⟨g',cap',rfl,ho4,Am⟩)
     |(at_builtin
       refine wpList_append_own _ rfl _ _ _ rfl w3.heap.size 27 Tryz.t27 (.slice none 0 0) 1 24 u57 i27 t27z t27s t27b rfl (by omega) (.slice a2 j c2) _ _ rfl ((Z00 Ek Am).alloc _) ⟨w4.heap.size,0,none⟩ 1 1 [.slice (some ⟨g',0,none⟩) l.length cap'] rfl rfl (Z1N _ _ _) (by intro u hu;rw[List.mem_singleton.1 hu];rfl) (by simp[maxLen];omega) (by omega) (by simp only[Z2];have:=Am.size;have:=hX.size;omega) ?_;intro v' w5 H6 F9 _))
    have Lc:(w4.alloc (.cells #[.slice (some ⟨g',0,none⟩) l.length cap'] 27)).grownBy w5 (Value.ownBlock (.slice a2 j c2)):=F9;clear F9;have T3:Shr w3.heap.size (w4.alloc (.cells #[.slice (some ⟨g',0,none⟩) l.length cap'] 27)) (.slice a2 j c2) (S.take j):=(Oh.ext Am).ext ((Ext.rfl' w4).alloc _);have Vp:=hX.size;have Mc:=Am.size;have T4:BelowX w3.heap.size (w2.heap.size+1) w3 w5:=by
     refine(hX.of_ext (Am.alloc (.cells #[.slice (some ⟨g',0,none⟩) l.length cap'] 27)) hX.size).trans ⟨Lc.os,Lc.tape,Lc.output,Lc.size,fun k hk _=>Lc.block k (by simp only[Z2];omega) (fun e=>by have:=(T3.lt e.symm).1;omega)⟩
    have hi5:w5.heap[w2.heap.size+1]? =some (.cells (Zs (inL (S.take j))) 138):=(Lc.block _ (by simp only[Z2];omega) (fun e=>by have:=(T3.lt e.symm).1;omega)).trans (((Am.alloc _).get hi));have Xq:Shr w3.heap.size w5 v' (S.take (j+1)):=by
     rw[Z0G hl];refine⟨fun h=>by simp at h,vs++[.slice (some ⟨g',0,none⟩) l.length cap'],by simpa[Kz] using H6,Each.append (I8.mono fun u s h=>OwnI.grownRow (OwnI.ext (OwnI.ext h Am) ((Ext.rfl' w4).alloc _)) T3 Lc) ⟨OwnI.grownRow (OwnI.ext (OwnI.le ho4 Vp) ((Ext.rfl' w4).alloc _)) T3 Lc,trivial⟩⟩
    clear Lc T3 Ek I8 Kz Uv Oh H6 ho4 La Gq Je;obtain⟨wo,rfl⟩:∃wo:World,wo=wr:=⟨_,rfl⟩;go_loopw [35] (fun v35 wz=>∃k:Nat,k<=l.length/\v35= .int .i64 k/\BelowX w5.heap.size (w2.heap.size+1) w5 wz/\wz.heap[w2.heap.size+1]? =some (.cells (Zs (fun i=>inL (S.take j) i||(l.take k).contains (i:Int))) 138)) (fun v35 _=>l.length - (intOf v35).toNat)
    case atStart=>exact⟨0,Nat.zero_le _,rfl,BelowX.refl _ _ _,by rw[hi5,Z1o];intro i _;simp⟩
    case round=>
     obtain⟨k,hk,rfl,Mh,T5⟩:=hrel;by_cases Dt:k=l.length
     ·subst Dt;rw[List.take_length] at T5;have Xy:wr.heap[w2.heap.size+1]? =some (.cells (Zs (inL (S.take (j+1)))) 138):=by
       rw[T5,Z1o];intro i _;rw[Z0G hl,ZbX]
      have hXf:BelowX w3.heap.size (w2.heap.size+1) w3 wr:=T4.trans ⟨Mh.os,Mh.tape,Mh.output,by have:=Mh.size;have:=T4.size;omega,fun k hk A8=>Mh.block k (by have:=T4.size;omega) A8⟩;have hSf:=Xq.belowX Mh Xw;go_wp2;exact⟨⟨j+1,by omega,by push_cast;rfl,hXf,Xy,hSf⟩,by simp[intOf];omega⟩
     ·obtain⟨p,hp⟩:∃p,l[k]? =some p:=⟨_,List.getElem?_eq_getElem (by omega)⟩;have Nw:=Pp p (List.mem_of_getElem? hp);obtain⟨q,rfl⟩:=Int.eq_ofNat_of_zero_le Nw.1;have Oc:q<9:=(by omega);have Ga:=Ev.cells (g:=gl) rfl k (.int .i64 q) (by rw[List.getElem?_map,hp];rfl);rw[Z0c] at Ga;replace Ga:wr.cell? ⟨gl,k,none⟩=some (.int .i64 q):=by
       rw[<-Ga];simp only[World.cell?,Mh.block gl (by have:=T4.size;omega) (by omega),T4.block gl J8 (by omega)]
      have hfq:=Z8 T5 q;have Pz:=Z0 T5 q;rw[Z1u _ q Oc] at Pz;generalize (inL (S.take j) q||(l.take k).contains (q:Int))=bq at Pz;have Pt:(0:Int)<=(k:Int):=(by omega);have hkL:(k:Int)<(l.length:Int):=(by omega);have Qp:(0:Int)<=(q:Int):=(by omega);have Xm:(q:Int)<9:=(by omega);go_wp2;have hA:=Go.Conc.aside_setCell wr ⟨w2.heap.size+1,q,none⟩ (.bool true);refine⟨⟨k+1,by omega,by push_cast;rfl,Mh.trans ⟨hA.os,hA.tape,hA.output,by rw[hA.size];exact Nat.le_refl _,fun b _ A8=>hA.block b A8⟩,?_⟩,by simp[intOf];omega⟩;rw[Zb T5,Z52 _ q Oc,Z1o];intro i _;have e9:(i==q)=decide ((i:Int)=(q:Int)):=(by rw[Bool.eq_iff_iff];simp;omega);rw[Z0G hp,e9];simp[Bool.or_assoc]
 ·have Gd:Z66 a b c m L=[]:=by rw[Z66,if_neg h]
  have A0:Z6T a b c m L=[]:=by rw[Z6T,if_neg h]
  have A8:(Zo a b c m L [] !=0)=true:=by simpa using h
  rw[Gd,A0];generalize Zo a b c m L []=f at ho A8⊢;go_enter func37,ntmps37
  go_wp2_with (
   go_at_call 86;refine(ho _ (by(repeat (with_reducible first|assumption|exact Ext.rfl' _|apply Ext.alloc|apply Ext.drew)))).mono ?_;rintro e w2 ⟨rfl,A7⟩
   have Ai:Ext w w2:=Ext.trans (by(repeat (with_reducible first|assumption|exact Ext.rfl' _|apply Ext.alloc|apply Ext.drew))) A7)
  refine bodyPost_ret (results_tmp3 rfl _ _ _) rfl ?_;exact⟨_,_,rfl,Shr.nil _ _,World.ownsRow_nil _ _ _ _,Ai.alloc _⟩
end Go.Proofs.Tryq
namespace Go.Proofs.Tryq
set_option maxRecDepth 100000
set_option maxHeartbeats 2000000
open Go Go.Nk Go.RowKit
theorem Z3P(a b:Int)(w:World):Calls prog 34 #[.int .i64 a,.int .i64 b] w fun e w'=>e= .returned (.agg #[.int .i64 a,.int .i64 b])/\Ext w w':=by
 go_enter func34,ntmps34;go_wp2;refine bodyPost_ret (v:= .agg #[.int .i64 a,.int .i64 b]) ((Z07 rfl _ _ _).trans ?_) rfl ⟨rfl,(Ext.rfl' w).alloc _⟩;simp[go_sem]
theorem ZP{a b:Bool}(h:a=b):Ending.returned (.bool a)=Ending.returned (.bool b):=by rw[h]
theorem Z1Z{α:Type}{l:List α}{n:Nat}(h:l.length=n):l.drop n=[]:=by rw[<-h,List.drop_length]
theorem Z54{α:Type}[DecidableEq α]{l k:List α}{i:Nat}{x y:α}(hx:l[i]? =some x)(hy:k[i]? =some y):decide (l.drop i=k.drop i)=(decide (x=y)&&decide (l.drop (i+1)=k.drop (i+1))):=by
 rw[Z0b hx,Z0b hy,Bool.eq_iff_iff];simp
theorem Z1d(a1:Option Addr)(n1 c1:Nat)(l:List Int)(a2:Option Addr)(n2 c2:Nat)(k:List Int)(w:World)(h1:l.length=n1)(h2:k.length=n2)(hb:n1<=1000000/\n2<=1000000)(hl:RawI w a1 l)(hk:RawI w a2 k):
 Calls prog 58 #[.slice a1 n1 c1,.slice a2 n2 c2] w fun e w'=>e= .returned (.bool (decide (l=k)))/\Ext w w':=by
 by_cases hn:n1=n2
 ·have H:Hid (decide (l=k)=decide (l.drop 0=k.drop 0)):=rfl;subst hn;obtain⟨n,hn⟩:∃n,n=n1:=⟨_,rfl⟩;subst hn;go_enter func58,ntmps58;go_wp2;go_loopw [5] (fun v wr=>∃i:Nat,i<=n/\v= .int .i64 i/\Ext w wr/\Hid (decide (l=k)=decide (l.drop i=k.drop i))) (fun v _=>n - (intOf v).toNat)
  case atStart=>exact⟨0,Nat.zero_le _,rfl,Ext.rfl' w,H⟩
  case round=>
   obtain⟨i,hi,rfl,hE,hH⟩:=hrel;clear H;by_cases An:i=n
   ·subst An;have hz:decide (l=k)=true:=(by rw[hH.out,Z1Z h1,Z1Z h2];rfl);go_wp2;go_ret;exact⟨ZP (a:=true) hz.symm,hE⟩
   ·have A3:i<n:=(by omega);obtain⟨x,hx⟩:∃x,l[i]? =some x:=⟨_,List.getElem?_eq_getElem (by omega)⟩;obtain⟨y,hy⟩:∃y,k[i]? =some y:=⟨_,List.getElem?_eq_getElem (by omega)⟩;obtain⟨ba,oa,rfl,P3,Fm⟩:=(hl.ext hE) i x hx;obtain⟨bb,ob,rfl,Pj,hyb⟩:=(hk.ext hE) i y hy;go_wp2_with fail;have gz0:=Zet Fm;have gz1:=Zet hyb;refine ZeG 9 (by kernel_rfl) ?_;refine ZeB [0,1,2,3,4,5,6,7,8] (by kernel_rfl) (by kernel_rfl) ?_;simp only[ZeD,List.getElem?_cons_succ,List.getElem?_cons_zero,List.cons_append,List.nil_append]
    repeat (go_big_quiet_step (fail))
    refine wpQuiet_nil ?_;refine Zf6 (by kernel_rfl) (fun W hW=> ?_);have Az:=hW;clear gz0 gz1;have C4:=hE.trans Az;by_cases Cj:x=y
    ·have hb:(x !=y)=false:=(by simpa using Cj);have Fi:Hid (decide (l=k)=decide (l.drop (i+1)=k.drop (i+1))):=(by show _=_;rw[hH.out,Z54 hx hy,decide_eq_true Cj,Bool.true_and]);rw[hb];clear hb;go_wp2;go_roundw
     case rel=>exact⟨i+1,by omega,by push_cast;rfl,C4,Fi⟩
     case measure=>simp[intOf];omega
    ·have hb:(x !=y)=true:=(by simpa using Cj);have Fi:decide (l=k)=false:=(by rw[hH.out,Z54 hx hy,decide_eq_false Cj,Bool.false_and]);rw[hb];clear hb;go_wp2;go_ret;exact⟨ZP (a:=false) Fi.symm,C4⟩
 ·have hz:decide (l=k)=false:=decide_eq_false fun h=>hn (by rw[<-h1,<-h2,h])
  have hnn:¬(n1:Int)=(n2:Int):=by omega
  go_enter func58,ntmps58;go_wp2;go_ret;exact⟨ZP (a:=false) hz.symm,Ext.rfl' w⟩
def RawL(w:World)(base:Option Addr)(ls:List (List Int)):Prop:=∀(i:Nat)(l:List Int),ls[i]? =some l->∃b off ad cp,base=some ⟨b,off,none⟩/\b<w.heap.size/\w.cell? ⟨b,off+i,none⟩=some (.slice ad l.length cp)/\l.length<=1000000/\RawI w ad l
theorem RawL.ext{w w':World}{base:Option Addr}{ls:List (List Int)}(h:RawL w base ls)(e:Ext w w'):RawL w' base ls:=by
 intro i l hi;obtain⟨b,off,ad,cp,h1,h2,h3,h4,h5⟩:=h i l hi;exact⟨b,off,ad,cp,h1,e.lt h2,e.cellS h3,h4,h5.ext e⟩
theorem OwnI.rawI{b:Nat}{w:World}{v:Value}{l:List Int}(h:OwnI b w v l):∃ao cp,v= .slice ao l.length cp/\RawI w ao l/\l.length<=cp:=by
 by_cases h0:l=[]
 ·subst h0;rcases h.2 with⟨rfl,_⟩|⟨g,cp,_,rfl,_⟩
  ·exact⟨none,0,rfl,fun i x hx=>by simp at hx,Nat.zero_le _⟩
  ·exact⟨_,cp,rfl,fun i x hx=>by simp at hx,Nat.zero_le _⟩
 ·rcases h.2 with⟨rfl,hz⟩|⟨g,cp,cur,rfl,hb,hg,Eg,hr⟩
  ·simp at hz;exact absurd hz h0
  ·exact⟨_,cp,rfl,OwnI.raw (b:=b) ⟨h.1,.inr ⟨g,cp,cur,rfl,hb,hg,Eg,hr⟩⟩,Eg⟩
theorem Shr.rawL{b:Nat}{w:World}{v:Value}{ls:List (List Int)}(h:Shr b w v ls)(hb:∀l∈ls,l.length<=1000000):∃ao cp,v= .slice ao ls.length cp/\RawL w ao ls:=by
 obtain⟨ao,cp,rfl⟩:=h.form;refine⟨ao,cp,rfl,fun i l hl=> ?_⟩;obtain⟨_,vs,h1,h2⟩:=h;have A1:=h2.length;have hi:=(List.getElem?_eq_some_iff.1 hl).1;obtain⟨g,cr,he,_,hg⟩:=h1.form (by omega);obtain⟨rfl,_⟩:ao=some ⟨g,0,none⟩/\_:=by simpa using he
 obtain⟨u,hu,Ev⟩:=h2.get i l hl;have hc:=h1.cells (g:=g) rfl i u hu;rw[Z0c] at hc;obtain⟨ad,cu,rfl,hr,_⟩:=Ev.rawI;exact⟨g,0,ad,cu,rfl,hg,by rw[Nat.zero_add];exact hc,hb l (List.mem_of_getElem? hl),hr⟩
theorem Z55(a1:Option Addr)(n1 c1:Nat)(l:List (List Int))(a2:Option Addr)(n2 c2:Nat)(k:List (List Int))(w:World)(h1:l.length=n1)(h2:k.length=n2)(hb:n1<=1000000/\n2<=1000000)(hl:RawL w a1 l)(hk:RawL w a2 k):
 Calls prog 56 #[.slice a1 n1 c1,.slice a2 n2 c2] w fun e w'=>e= .returned (.bool (decide (l=k)))/\Ext w w':=by
 by_cases hn:n1=n2
 ·have H:Hid (decide (l=k)=decide (l.drop 0=k.drop 0)):=rfl;subst hn;obtain⟨n,hn⟩:∃n,n=n1:=⟨_,rfl⟩;subst hn;go_enter func56,ntmps56;go_wp2;go_loopw [5] (fun v wr=>∃i:Nat,i<=n/\v= .int .i64 i/\Ext w wr/\Hid (decide (l=k)=decide (l.drop i=k.drop i))) (fun v _=>n - (intOf v).toNat)
  case atStart=>exact⟨0,Nat.zero_le _,rfl,Ext.rfl' w,H⟩
  case round=>
   obtain⟨i,hi,rfl,hE,hH⟩:=hrel;clear H;by_cases An:i=n
   ·subst An;have hz:decide (l=k)=true:=(by rw[hH.out,Z1Z h1,Z1Z h2];rfl);go_wp2;go_ret;exact⟨ZP (a:=true) hz.symm,hE⟩
   ·have A3:i<n:=(by omega);obtain⟨x,hx⟩:∃x,l[i]? =some x:=⟨_,List.getElem?_eq_getElem (by omega)⟩;obtain⟨y,hy⟩:∃y,k[i]? =some y:=⟨_,List.getElem?_eq_getElem (by omega)⟩;obtain⟨ba,oa,ax,cx,rfl,P3,Fm,hxn,Xz⟩:=(hl.ext hE) i x hx;obtain⟨bb,ob,ay,cy,rfl,Pj,hyb,hyn,hyr⟩:=(hk.ext hE) i y hy;go_wp2_with fail;have gz0:=Zet Fm;have gz1:=Zet hyb;refine ZeG 10 (by kernel_rfl) ?_;refine ZeB [0,1,2,3,4,5,6,7] (by kernel_rfl) (by kernel_rfl) ?_;simp only[ZeD,List.getElem?_cons_succ,List.getElem?_cons_zero,List.cons_append,List.nil_append]
    repeat (go_big_quiet_step (fail))
    refine wpQuiet_nil ?_;refine ZeX 8 (f:=58) (args:= #[.slice ax x.length cx,.slice ay y.length cy]) (v:= .bool (decide (x=y))) (by kernel_rfl) rfl (by kernel_rfl) rfl (fun W=>by simp[go_sem,execOp,Act.eval]) (fun W hW=>Z1d ax x.length cx x ay y.length cy y _ rfl rfl ⟨hxn,hyn⟩ (Xz.ext hW) (hyr.ext hW)) ?_;go_simp;refine ZeB [9] (by kernel_rfl) (by kernel_rfl) ?_;simp only[ZeD,List.getElem?_cons_succ,List.getElem?_cons_zero,List.cons_append,List.nil_append]
    repeat (go_big_quiet_step (fail))
    refine wpQuiet_nil ?_;refine Zf6 (by kernel_rfl) (fun W hW=> ?_);have Az:=hW;clear gz0 gz1;have C4:=hE.trans Az;by_cases Cj:x=y
    ·have hb:(!decide (x=y))=false:=(by simpa using Cj);have Fi:Hid (decide (l=k)=decide (l.drop (i+1)=k.drop (i+1))):=(by show _=_;rw[hH.out,Z54 hx hy,decide_eq_true Cj,Bool.true_and]);rw[hb];clear hb;go_wp2;go_roundw
     case rel=>exact⟨i+1,by omega,by push_cast;rfl,C4,Fi⟩
     case measure=>simp[intOf];omega
    ·have hb:(!decide (x=y))=true:=(by simpa using Cj);have Fi:decide (l=k)=false:=(by rw[hH.out,Z54 hx hy,decide_eq_false Cj,Bool.false_and]);rw[hb];clear hb;go_wp2;go_ret;exact⟨ZP (a:=false) Fi.symm,C4⟩
 ·have hz:decide (l=k)=false:=decide_eq_false fun h=>hn (by rw[<-h1,<-h2,h])
  have hnn:¬(n1:Int)=(n2:Int):=by omega
  go_enter func56,ntmps56;go_wp2;go_ret;exact⟨ZP (a:=false) hz.symm,Ext.rfl' w⟩
end Go.Proofs.Tryq
namespace Go.Nk
open Go Go.Region
open Go.Proofs.Tryq (Ext Z3 Z2)
variable {P:Program} {ops:Array Oper} {Q:Exit->Act->World->Prop}
variable {n:Nat} {Dl:List (Option Tmp)} {S:List (Option Value)} {L0:Tmp->Value} {M:(Nat->Bool)->(Tmp->Value)->World->Prop} {ℓ:Nat->Bool} {a:Act} {w w':World} {i:Nat} {o:Oper}
end Go.Nk
namespace Go.Proofs.Tryq
set_option maxRecDepth 100000
open Go Go.Nk Go.RowKit
theorem Z4r(n lo hi:Int)(w:World):Calls prog 93 #[.int .i64 n,.int .i64 lo,.int .i64 hi] w fun e w'=>e= .returned (.bool (decide (lo<=n/\n<=hi)))/\w'=w:=by
 by_cases h1:lo<=n
 ·by_cases h2:n<=hi
  ·go_enter func93,ntmps93;go_wp2;go_ret;exact⟨ZP (a:=true) (by rw[Bool.eq_iff_iff];simp<;>omega),rfl⟩
  ·go_enter func93,ntmps93;go_wp2;go_ret;exact⟨ZP (a:=false) (by rw[Bool.eq_iff_iff];simp<;>omega),rfl⟩
 ·go_enter func93,ntmps93;go_wp2;go_ret;exact⟨ZP (a:=false) (by rw[Bool.eq_iff_iff];simp<;>omega),rfl⟩
def inR(n lo hi:Int):Bool:=decide (lo<=n/\n<=hi)
theorem Zgc(n lo hi:Int)(w:World):Calls prog 93 #[.int .i64 n,.int .i64 lo,.int .i64 hi] w fun e w'=>e= .returned (.bool (inR n lo hi))/\w'=w:=Z4r n lo hi w
theorem Z2e(a b lo hi:Int)(w:World):Calls prog 95 #[.agg #[.int .i64 a,.int .i64 b],.int .i64 lo,.int .i64 hi] w fun e w'=>e= .returned (.bool (decide (lo<=a/\a<=b/\b<=hi)))/\Ext w w':=by
 have hr:=fun n w=>Zgc n lo hi w
 have H:Hid (decide (lo<=a/\a<=b/\b<=hi)=(inR a lo hi&&(inR b lo hi&&decide (a<=b)))):=by
  show _=_;simp only[inR];rw[Bool.eq_iff_iff];simp;omega
 cases h1:inR a lo hi with
 |false=>
  have D0:=hr a;simp only[h1] at D0;rw[h1] at H;go_enter func95,ntmps95;go_wp2_with (go_at_call 93;(with_reducible refine(D0 _).mono ?_);rintro e w2 ⟨rfl,rfl⟩);go_ret;exact⟨ZP (a:=false) (by rw[H.out];simp),(Ext.rfl' w).alloc _⟩
 |true=>
  have D0:=hr a;simp only[h1] at D0;rw[h1] at H;cases h2:inR b lo hi with
  |false=>
   have Cg:=hr b;simp only[h2] at Cg;rw[h2] at H;go_enter func95,ntmps95;go_wp2_with (first|(go_at_call 93;(with_reducible refine(D0 _).mono ?_);rintro e w2 ⟨rfl,rfl⟩)|(go_at_call 93;(with_reducible refine(Cg _).mono ?_);rintro e w2 ⟨rfl,rfl⟩));go_ret;exact⟨ZP (a:=false) (by rw[H.out];simp),(Ext.rfl' w).alloc _⟩
  |true=>
   have Cg:=hr b;simp only[h2] at Cg;rw[h2] at H;go_enter func95,ntmps95;go_wp2_with (first|(go_at_call 93;(with_reducible refine(D0 _).mono ?_);rintro e w2 ⟨rfl,rfl⟩)|(go_at_call 93;(with_reducible refine(Cg _).mono ?_);rintro e w2 ⟨rfl,rfl⟩));go_ret;exact⟨ZP (a:=decide (a<=b)) (by rw[H.out];simp),(Ext.rfl' w).alloc _⟩
end Go.Proofs.Tryq
