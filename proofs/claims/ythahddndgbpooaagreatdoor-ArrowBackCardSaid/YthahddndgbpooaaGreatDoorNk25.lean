import Derived.Test.YthahddndgbpooaaGreatDoorNkA
import Derived.Test.YthahddndgbpooaaGreatDoorNk24
set_option linter.all false
set_option maxRecDepth 100000
set_option maxHeartbeats 4000000
open Go Go.Nk Go.RowKit
variable {x:Int}{l:List Int}{B b ib n:Nat}{X:Nat->Prop}{v:Value}{a c w w':World}
namespace Go.Proofs.Tryq
section
open Go.Maps (Keyed)
open Go.ChangeMaps (setBlock)
theorem Zif(w:World){b:Nat}(hx:X b)(o:Obj):ExtX X w (setBlock w b o):=
 ⟨by rw[Z2s];exact XB _,λk _ hn=>Z0O (λe=>hn (by rw[e];exact hx)) _,rfl,rfl,rfl⟩
theorem Z65(a b c m:Int)(base:Option Addr)(n cap:Nat)(L:List Sf)(out:Nat->Bool)(w:World)(hG:Good a b c L)(A1:L.length=n)(hn:n<=9)(hm:2<=m/\m<=4)(hM:Meas w)(hS:RawA w base L):
 Calls prog 59 #[.agg #[a,b,c,m,.slice base n cap],.agg (Zs out)] w λe w'=>∃v,e= .returned v/\Shr w.heap.size w' v (Zk (Zt a b c L n out m.toNat [] 0) n 0 out)/\Ext w w':=by
 have Hq:=λW (hW:Ext w W)=>ZbU a b c m base n cap L out W hG A1 hn hm (hM.ext hW) (hS.ext hW)
 have Pp:∀l∈Zt a b c L n out m.toNat [] 0,l.Pairwise (·<·)/\(∀p∈l,0<=p/\p<(n:Int))/\l.length=m.toNat:=λl hl=>by
  have:=Z2A a b c L n out m.toNat [] 0 l hl (by simp) List.Pairwise.nil;exact⟨this.1,this.2.1,by simpa using this.2.2⟩
 have Xz:(Zt a b c L n out m.toNat [] 0).length<=100000:=by
  refine XD (Z3L a b c L n out hn m.toNat [] 0) ?_;have:m.toNat=2\/m.toNat=3\/m.toNat=4:=by omega
  rcases this with h|h|h<;>rw[h]<;>decide
 have hTe:Z62 (Zt a b c L n out m.toNat [] 0):=Z6R a b c L n m.toNat out;generalize Zt a b c L n out m.toNat [] 0=T at Hq Pp Xz hTe⊢;have Pv:= @run_makeMap prog;simp only[Zs] at Hq⊢;go_enter fk Tryz.func59,Tryz.ntmps59
 go_wp2_with (
  go_at_call 105;refine(Hq _ (((((Ext.rfl' w).alloc _).alloc _).alloc _).alloc _)).mono ?_;rintro e w2 ⟨v,vs,rfl,En,Im,A4⟩
  have Ah:Ext w w2:=Ext.trans (((((Ext.rfl' w).alloc _).alloc _).alloc _).alloc _) A4;have g0:w2.heap[w.heap.size]? =some (.cells #[a,b,c,m,.slice base n cap] 117):=A4.get (by simp only[Z3,Z2];rw[XA (by omega),XA (by omega),XA (by omega),YZ trivial]);have g1:w2.heap[w.heap.size+1]? =some (.cells (Zs out) 125):=A4.get (by simp only[Z3,Z2];rw[XA (by omega),XA (by omega),YZ trivial];rfl);have g2:w2.heap[w.heap.size+1+1]? =some (.map #[] 0):=A4.get (by simp only[Z3,Z2];rw[XA (by omega),YZ trivial]);have g3:w2.heap[w.heap.size+1+1+1]? =some (.cells #[.map (some (w.heap.size+1+1))] 181):=A4.get (by simp only[Z3,Z2];rw[YZ trivial]);have Ek:w.heap.size+4<=w2.heap.size:=by have:=A4.size;simp only[Z2] at this;omega
  replace En:=Z05 En (show w.heap.size<=_ by simp only[Z2];omega);replace Im:=Im.mono λu s h=>OwnI.le h (show w.heap.size<=_ by simp only[Z2];omega)
  clear A4;obtain⟨ao,cp,rfl⟩:∃ao cp,v= .slice ao vs.length cp:=by
   rcases En.2 with⟨rfl,h⟩|⟨g,cp,_,rfl,_⟩
   ·exact⟨none,0,by rw[h]⟩
   ·exact⟨_,cp,rfl⟩)
 clear Hq Pv;have Lr:=Im.length;rw[Lr] at En⊢;obtain⟨B,hB⟩:∃B,B=w.heap.size:=⟨_,rfl⟩;rw[<-hB] at En Im;have Tc:ByAt B w2.heap.size n (w.heap.size+1+1) (T.take 0) w2:=by
  refine⟨λ_=>none,⟨#[],0,g2,by simp,by simp,by simp,by simp⟩,λi hi=>Shr.nil _ _,λi j _ _ _=> .inl rfl,λi hi k hk=>by cases hk⟩
 go_loopw [15] (λv15 wr=>∃j:Nat,j<=T.length/\v15= .int .i64 j/\Map1 (w.heap.size+1+1) w2 wr/\ByAt B w2.heap.size n (w.heap.size+1+1) (T.take j) wr) (λv15 _=>T.length - (intOf v15).toNat)
 case atStart=>exact⟨0,XS _,rfl,Map1.refl _ _,Tc⟩
 case round=>
  obtain⟨j,hj,rfl,hX,Yc⟩:=hrel;clear Tc;by_cases Iz:j=T.length
  ·subst Iz;rw[UT] at Yc;obtain⟨G,D4,C1,_,_⟩:=Yc;have Br:Ext w wr:=BelowX.ext hX Ah (by omega) Ah.size;have hwsz:=hX.size;have g5:=(hX.block _ (Z5 g0) (by omega)).trans g0;have g6:=(hX.block _ (Z5 g1) (by omega)).trans g1;have g7:=(hX.block _ (Z5 g3) (by omega)).trans g3;have z0:=Z0 g6 0;have z1:=Z0 g6 1;have z2:=Z0 g6 2;have z3:=Z0 g6 3;have z4:=Z0 g6 4;have z5:=Z0 g6 5;have z6:=Z0 g6 6;have z7:=Z0 g6 7;have z8:=Z0 g6 8;simp only[Zs,YC,YA,YB] at z0 z1 z2 z3 z4 z5 z6 z7 z8
   have Cu:∀W,W=(((wr.alloc (.map #[] 0)).alloc (.cells #[.map (some wr.heap.size)] 182)).alloc (.cells #[.func (.func 106) #[] #[.pointer (some ⟨w.heap.size,0,none⟩),.pointer (some ⟨wr.heap.size+1,0,none⟩),.pointer (some ⟨w.heap.size+1+1+1,0,none⟩),.pointer (some ⟨wr.heap.size+1+1,0,none⟩)]] 183))->
    Calls prog 106 #[.int .i64 0,.agg (Zs out),.pointer (some ⟨w.heap.size,0,none⟩),.pointer (some ⟨wr.heap.size+1,0,none⟩),.pointer (some ⟨w.heap.size+1+1+1,0,none⟩),.pointer (some ⟨wr.heap.size+1+1,0,none⟩)] W λe W'=>∃v,e= .returned v/\Shr B W' v (Zk T n 0 out)/\Ext w W':=by
    intro W hW;have Bf:Ext wr W:=(by rw[hW];exact(((Ext.rfl' wr).alloc _).alloc _).alloc _);have k0:W.heap[wr.heap.size]? =some (.map #[] 0):=(by rw[hW];simp only[Z3,Z2];rw[XA (by omega),XA (by omega),YZ trivial]);have k1:W.heap[wr.heap.size+1]? =some (.cells #[.map (some wr.heap.size)] 182):=(by rw[hW];simp only[Z3,Z2];rw[XA (by omega),YZ trivial]);have k2:W.heap[wr.heap.size+1+1]? =some (.cells #[.func (.func 106) #[] #[.pointer (some ⟨w.heap.size,0,none⟩),.pointer (some ⟨wr.heap.size+1,0,none⟩),.pointer (some ⟨w.heap.size+1+1+1,0,none⟩),.pointer (some ⟨wr.heap.size+1+1,0,none⟩)]] 183):=(by rw[hW];simp only[Z3,Z2];rw[YZ trivial]);have Le:MapAt prog 125 W wr.heap.size (λ_=>none):=⟨#[],0,k0,by simp,by simp,by simp,by simp⟩;have Ib:=D4.lt
    refine(Z8B a b c m base n cap T B w.heap.size (wr.heap.size+1) (w.heap.size+1+1+1) (wr.heap.size+1+1) wr.heap.size (w.heap.size+1+1) hn hTe (by omega) (λl hl=>⟨(Pp l hl).2.1,by rw[(Pp l hl).2.2];omega⟩) n 0 out W (λ_=>none) (by omega)
     ⟨Bf.get g5,k1,Bf.get g7,k2,⟨G,D4.keep (Bf.old _ Ib),λi hi=>(C1 i hi).ext Bf⟩,⟨by omega,by omega,by omega,by omega,by omega⟩,by have:=Bf.size;omega⟩ ⟨Le,λkey v hv=>by cases hv⟩).mono ?_
    rintro e W' ⟨v,G',rfl,hS',hK',hM'⟩;exact⟨v,rfl,hS',BelowX.ext hM' (Br.trans Bf) Br.size (Br.trans Bf).size⟩
   simp only[Zs] at Cu;have Pv:= @run_makeMap prog;clear hX C1 D4;have hl6:=Z5 g6;have Pi:∀(o1 o2 o3:Obj)(k:Nat),(((wr.alloc o1).alloc o2).alloc o3).cell? ⟨w.heap.size+1,k,none⟩=wr.cell? ⟨w.heap.size+1,k,none⟩:=λo1 o2 o3 k=>((((Ext.rfl' wr).alloc o1).alloc o2).alloc o3).cell hl6
   go_wp2_with (
    go_at_call 106;refine(Cu _ rfl).mono ?_;rintro e w5 ⟨v,rfl,Yd,B4⟩)
   go_ret;exact⟨v,rfl,by rw[<-hB];exact Yd,B4⟩
  ·have D3:j<T.length:=by omega
   have hjv:j<vs.length:=by omega
   obtain⟨l,hl⟩:∃l,T[j]? =some l:=⟨_,YH D3⟩;obtain⟨u,hu,F2⟩:=Im.get j l hl;obtain⟨Td,Ca,Qa⟩:=Pp l (YQ hl);obtain⟨gr,cr,T2,T3,Lq⟩:=En.form (by omega);obtain⟨rfl,rfl⟩:ao=some ⟨gr,0,none⟩/\cp=cr:=by simpa using T2
   have Ls:=En.cells (g:=gr) rfl j u hu;rw[Z0c] at Ls;obtain⟨gl,cl,rfl,T4,Jo⟩:=F2.form (by omega);obtain⟨p,hp⟩:∃p,l[0]? =some p:=⟨_,YH (by omega)⟩;have Oi:=Ca p (YQ hp);obtain⟨i,rfl⟩:=VL Oi.1;have Cm:=F2.cells (g:=gl) rfl 0 (.int .i64 i) (by rw[List.getElem?_map,hp];rfl);rw[Z0c] at Cm;have Ao:i<n:=by omega
   obtain⟨es2,ck2,Or⟩:∃es ck,w2.heap[w.heap.size+1+1]? =some (.map es ck):=⟨_,_,g2⟩;have Ye:gr≠w.heap.size+1+1:=by
    rintro rfl;obtain⟨_,⟨h,_⟩|⟨_,_,_,h,_,hc,_⟩⟩:=En
    ·cases h
    ·cases h;rw[g2] at hc;cases hc
   have Te:gl≠w.heap.size+1+1:=by
    rintro rfl;obtain⟨_,⟨h,_⟩|⟨_,_,_,h,_,hc,_⟩⟩:=F2
    ·cases h
    ·cases h;rw[g2] at hc;cases hc
   have Hr:∀(q:Addr),q.block<w2.heap.size->q.block≠w.heap.size+1+1->wr.cell? q=w2.cell? q:=λq h1 h2=>by simp only[World.cell?,hX.block _ h1 h2]
   replace Ls:=(Hr ⟨gr,j,none⟩ Lq Ye).trans Ls;have hlc:wr.drew.cell? ⟨gl,0,none⟩=some (.int .i64 i):=(Hr ⟨gl,0,none⟩ Jo Te).trans Cm;have hyc:wr.drew.cell? ⟨w.heap.size+1+1+1,0,none⟩=some (.map (some (w.heap.size+1+1))):=(Hr ⟨w.heap.size+1+1+1,0,none⟩ (Z5 g3) (by simp)).trans (by rw[Z0 g3];rfl);obtain⟨G,D4,C1,D0,Bn⟩:=Yc;have Af:=C1 i Ao;obtain⟨ra,rc,Oz⟩:=Af.form;obtain⟨Ei,rvs,P0,hre⟩:=Af;rw[Oz] at P0 Ei;have Gz:=hre.length;have Tf:wr.drew.ownsRow B 57 1 (.slice ra (byL (T.take j) i).length rc) rvs.length rvs:=Z00 P0 ((Ext.rfl' wr).drew);have Mr:wr.drew.ownsRow B 57 1 (.slice ra (byL (T.take j) i).length rc) (byL (T.take j) i).length rvs:=by have h:=Tf;rw[Gz] at h;exact h
   have Ms:∀W,W=wr.drew\/W=wr.drew.alloc (.cells #[.slice (some ⟨gl,0,none⟩) l.length cl] 57)->(Instr.lookup 181 (.map (some (w.heap.size+1+1))) (.int .i64 i) false).run prog W= .ok (.slice ra (byL (T.take j) i).length rc) W:=by
    intro W hW;obtain⟨kl,Fc⟩:=Z3M i (by omega);have Fo:MapAt prog 3 W (w.heap.size+1+1) G:=by
     rcases hW with rfl|rfl
     ·exact D4.keep rfl
     ·exact D4.keep (((Ext.rfl' wr).drew.alloc _).old _ D4.lt)
    have:=Fo.lookup K3 u182 (Zap W) Fc false;rw[XA (by decide)] at this;rw[this];exact SG (λv=>Result.ok v W) Oz
   have Tg:B<=(wr.drew.alloc (.cells #[.slice (some ⟨gl,0,none⟩) l.length cl] 57)).heap.size:=by simp only[Z2];have:=hX.size;have:wr.drew.heap.size=wr.heap.size:=rfl;omega
   have hrlen:(byL (T.take j) i).length<=100000:=XD (RK _ _) (by rw[UK];omega);obtain⟨A,hA⟩:∃A:Value->World->Prop,A=λv w3=>w3.ownsRow B 57 1 v (rvs.length+1) (rvs++[.slice (some ⟨gl,0,none⟩) l.length cl])/\(wr.drew.alloc (.cells #[.slice (some ⟨gl,0,none⟩) l.length cl] 57)).grownBy w3 (Value.ownBlock (.slice ra (byL (T.take j) i).length rc))/\((v.ownBlock=Value.ownBlock (.slice ra (byL (T.take j) i).length rc))\/∀k,v.ownBlock=some k->(wr.drew.alloc (.cells #[.slice (some ⟨gl,0,none⟩) l.length cl] 57)).heap.size<=k):=⟨_,rfl⟩
   have Yf:∀v w3,A v w3->w3.ownsRow B 57 1 v (rvs.length+1) (rvs++[.slice (some ⟨gl,0,none⟩) l.length cl])/\(wr.drew.alloc (.cells #[.slice (some ⟨gl,0,none⟩) l.length cl] 57)).grownBy w3 (Value.ownBlock (.slice ra (byL (T.take j) i).length rc))/\((v.ownBlock=Value.ownBlock (.slice ra (byL (T.take j) i).length rc))\/∀k,v.ownBlock=some k->(wr.drew.alloc (.cells #[.slice (some ⟨gl,0,none⟩) l.length cl] 57)).heap.size<=k):=λv w3 h=>by rw[hA] at h;exact h
   have hA2:∀v w3,w3.ownsRow B 57 1 v (rvs.length+1) (rvs++[.slice (some ⟨gl,0,none⟩) l.length cl])/\(wr.drew.alloc (.cells #[.slice (some ⟨gl,0,none⟩) l.length cl] 57)).grownBy w3 (Value.ownBlock (.slice ra (byL (T.take j) i).length rc))/\((v.ownBlock=Value.ownBlock (.slice ra (byL (T.take j) i).length rc))\/∀k,v.ownBlock=some k->(wr.drew.alloc (.cells #[.slice (some ⟨gl,0,none⟩) l.length cl] 57)).heap.size<=k)->A v w3:=λv w3 h=>by rw[hA];exact h
   clear hA;have Th:∀v w3,A v w3->∀k,k<w2.heap.size->w3.heap[k]? =wr.heap[k]? :=by
    intro v w3 h k hk;obtain⟨_,hg,_⟩:=Yf v w3 h;rw[hg.block k (by simp only[Z2];have:=hX.size;have:wr.drew.heap.size=wr.heap.size:=rfl;omega) (λe=>by have:=Bn i Ao k (by rw[Oz];exact e.symm);omega)];rw[Z3,XA (by have:=hX.size;have:wr.drew.heap.size=wr.heap.size:=rfl;omega)];rfl
   have Ad:∀v w3,A v w3->∃o,(Instr.mapUpdate 181 (.map (some (w.heap.size+1+1))) (.int .i64 i) v).run prog w3= .ok () (setBlock w3 (w.heap.size+1+1) o)/\ByAt B w2.heap.size n (w.heap.size+1+1) (T.take (j+1)) (setBlock w3 (w.heap.size+1+1) o):=by
    intro v w3 h;obtain⟨h1,h2,h3⟩:=Yf v w3 h;rw[Z0G hl];have Ql:Ext wr (wr.drew.alloc (.cells #[.slice (some ⟨gl,0,none⟩) l.length cl] 57)):=(Ext.rfl' wr).drew.alloc _
    exact ByAt.step (W:=wr.drew.alloc (.cells #[.slice (some ⟨gl,0,none⟩) l.length cl] 57)) (G:=G) (D4.keep (Ql.old _ D4.lt)) (λq hq=>(C1 q hq).ext Ql) D0 Bn (XD hX.size Ql.size) Ao (by omega) (by rw[List.head?_eq_getElem?];exact hp)
     (Z00 (Z2R F2 hX g2) Ql) (by rw[Oz];exact Z00 P0 Ql) (hre.mono λu s h=>Z00 h Ql) h1 (by rw[Oz];exact h2) (by rw[Oz];exact h3)
   have Q5:¬((l.length:Int)<=0):=by omega
   have hlne:¬l=[]:=by rintro rfl;simp at Q5
   clear Qa;clear Hr;go_wp2_with fail;refine Zia (T:=Value×World×Obj) (λz=>[(19,.map (some (w.heap.size+1+1))),(20,.slice (some ⟨gl,0,none⟩) l.length cl),(21,.pointer (some ⟨gl,0,none⟩)),(22,.int .i64 i),(23,.map (some (w.heap.size+1+1))),(24,.slice (some ⟨gl,0,none⟩) l.length cl),(25,.pointer (some ⟨gl,0,none⟩)),(26,.int .i64 i),(27,.slice ra (byL (T.take j) i).length rc),(28,.slice (some ⟨gl,0,none⟩) l.length cl),(29,.slice (some ⟨wr.drew.heap.size,0,none⟩) 1 1),(30,z.1)]) (λz W=>A z.1 z.2.1/\W=setBlock z.2.1 (w.heap.size+1+1) z.2.2/\ByAt B w2.heap.size n (w.heap.size+1+1) (T.take (j+1)) (setBlock z.2.1 (w.heap.size+1+1) z.2.2)) ?_ ?_
   ·refine Zhk (ExtX λq=>wr.heap.size<=q\/Value.ownBlock (.slice ra (byL (T.take j) i).length rc)=some q\/q=w.heap.size+1+1) (by kernel_rfl) ?_;have hyd:=((Ext.rfl' wr).drew).cellS hyc;have hld:=((Ext.rfl' wr).drew).cellS hlc;have Yg:∀k,Value.ownBlock (.slice ra (byL (T.take j) i).length rc)=some k->w2.heap.size<=k:=λk hk=>Bn i Ao k (by rw[Oz];exact hk)
    have hy3:=Z5 g3;have hyN:¬(wr.heap.size<=w.heap.size+1+1+1\/Value.ownBlock (.slice ra (byL (T.take j) i).length rc)=some (w.heap.size+1+1+1)\/w.heap.size+1+1+1=w.heap.size+1+1):=by
     rintro(h|h|h)
     ·have:=hX.size;omega
     ·have:=Yg _ h;omega
     ·omega
    have Xq:¬(wr.heap.size<=gl\/Value.ownBlock (.slice ra (byL (T.take j) i).length rc)=some gl\/gl=w.heap.size+1+1):=by
     rintro(h|h|h)
     ·have:=hX.size;omega
     ·have:=Yg _ h;omega
     ·exact Te h
    have gy:=GrE.cell (X:=λq=>wr.heap.size<=q\/Value.ownBlock (.slice ra (byL (T.take j) i).length rc)=some q\/q=w.heap.size+1+1) hyN hyd;have gz:=GrE.cell (X:=λq=>wr.heap.size<=q\/Value.ownBlock (.slice ra (byL (T.take j) i).length rc)=some q\/q=w.heap.size+1+1) Xq hld;clear hyN Xq Yg;refine Zh8 (ExtX.pre _) [0,1,2,3,4,5,6,7,9] (by kernel_rfl) (by kernel_rfl) ?_;simp only[ZeD,YB,YA,YK,YJ]
    repeat (go_big_quiet_step (fail))
    refine XU ?_;clear gy gz;refine Zir 8 10 rfl rfl (by kernel_rfl) rfl rfl ?_ ?_
    ·refine Zf3 ⟨.slice ra (byL (T.take j) i).length rc,wr.drew,by have Gq:=Ms (wr.drew) (.inl rfl);simp[go_sem,execOp,Act.eval,Gq],Go.Nk.Ext.toX (Ext.rfl' _) _,?_⟩;go_simp;refine Zh4 10 rfl (by kernel_rfl) rfl ?_;refine Zf3 ⟨.slice (some ⟨wr.drew.heap.size,0,none⟩) 1 1,wr.drew.alloc (.cells #[.slice (some ⟨gl,0,none⟩) l.length cl] 57),by simp[go_sem,execOp,Act.eval],Go.Nk.Ext.toX ((Ext.rfl' _).alloc _) _,?_⟩;go_simp;refine Zh4 11 rfl (by kernel_rfl) rfl ?_;refine Z3V _ _ 61 rfl B 57 Tryz.t57 (.slice none 0 0) 1 24 u57 i27 t27z t27s t27b rfl (by omega) (.slice ra (byL (T.take j) i).length rc) (byL (T.take j) i).length rvs rfl (Mr.alloc _) ⟨wr.drew.heap.size,0,none⟩ 1 1 [.slice (some ⟨gl,0,none⟩) l.length cl] rfl rfl (Z1N _ _ _) (by intro u hu;rw[XO.1 hu];rfl) (by simp[maxLen];omega) (by omega) Tg (λv' w3 Aa Ju P1=>⟨Zhv Ju (λk hk=> .inr (.inl hk)),?_⟩);have Ti:=hA2 v' w3 ⟨by rw[Gz];exact Aa,Ju,P1⟩;obtain⟨o,Ex,Fr⟩:=Ad v' w3 Ti;go_simp;refine Zh4 12 rfl (by kernel_rfl) rfl (Zie ⟨setBlock w3 (w.heap.size+1+1) o,by simp[go_sem,execOp,Act.eval,Ex],Zif w3 (.inr (.inr rfl)) o,?_⟩);go_simp;refine ZhF (by kernel_rfl) ?_;exact⟨rfl,v',(by simp only[Zip,Act.put];go_simp),w3,Ti,o,rfl,(by rw[hB] at Fr;exact Fr)⟩
    ·refine Zf3 ⟨.slice (some ⟨wr.drew.heap.size,0,none⟩) 1 1,wr.drew.alloc (.cells #[.slice (some ⟨gl,0,none⟩) l.length cl] 57),by simp[go_sem,execOp,Act.eval],Go.Nk.Ext.toX ((Ext.rfl' _).alloc _) _,?_⟩;go_simp;refine Zh4 8 rfl (by kernel_rfl) rfl ?_;refine Zf3 ⟨.slice ra (byL (T.take j) i).length rc,wr.drew.alloc (.cells #[.slice (some ⟨gl,0,none⟩) l.length cl] 57),by have Gq:=Ms (wr.drew.alloc (.cells #[.slice (some ⟨gl,0,none⟩) l.length cl] 57)) (.inr rfl);simp only[World.alloc_drew] at Gq;simp[go_sem,execOp,Act.eval,Gq],Go.Nk.Ext.toX (Ext.rfl' _) _,?_⟩;go_simp;refine Zh4 11 rfl (by kernel_rfl) rfl ?_;refine Z3V _ _ 61 rfl B 57 Tryz.t57 (.slice none 0 0) 1 24 u57 i27 t27z t27s t27b rfl (by omega) (.slice ra (byL (T.take j) i).length rc) (byL (T.take j) i).length rvs rfl (Mr.alloc _) ⟨wr.drew.heap.size,0,none⟩ 1 1 [.slice (some ⟨gl,0,none⟩) l.length cl] rfl rfl (Z1N _ _ _) (by intro u hu;rw[XO.1 hu];rfl) (by simp[maxLen];omega) (by omega) Tg (λv' w3 Aa Ju P1=>⟨Zhv Ju (λk hk=> .inr (.inl hk)),?_⟩);have Ti:=hA2 v' w3 ⟨by rw[Gz];exact Aa,Ju,P1⟩;obtain⟨o,Ex,Fr⟩:=Ad v' w3 Ti;go_simp;refine Zh4 12 rfl (by kernel_rfl) rfl (Zie ⟨setBlock w3 (w.heap.size+1+1) o,by simp[go_sem,execOp,Act.eval,Ex],Zif w3 (.inr (.inr rfl)) o,?_⟩)
     go_simp;refine ZhF (by kernel_rfl) ?_;exact⟨rfl,v',(by simp only[Zip,Act.put];go_simp),w3,Ti,o,rfl,(by rw[hB] at Fr;exact Fr)⟩
   ·rintro⟨v9,w9,o9⟩ W ⟨Yh,Mt,P2⟩;simp only at Yh Mt P2;simp only[Zip,Act.put];replace Mt:Hid (W=setBlock w9 (w.heap.size+1+1) o9):=Mt;go_simp;replace Mt:=Mt.out;have Tj:Map1 (w.heap.size+1+1) w2 W:=by
     obtain⟨_,k1,_⟩:=Yf _ _ Yh;rw[Mt];have Fh:=k1.size;simp only[Z2] at Fh;have Nw:wr.drew.heap.size=wr.heap.size:=rfl;exact⟨k1.os.trans hX.os,k1.tape.trans hX.tape,k1.output.trans hX.output,by rw[Z2s];have:=hX.size;omega,λk hk A9=>(Z0O A9 _).trans ((Th _ _ Yh k hk).trans (hX.block k hk A9))⟩
    rw[<-Mt] at P2;clear Mt;go_wp2;exact⟨⟨j+1,by omega,by push_cast;rfl,Tj,P2⟩,by simp[intOf];omega⟩
end
theorem Z7I(h:w.heap[b]? =some (.cells #[x] 3)):RawI w (some ⟨b,0,none⟩) [x]:=by
 intro i y hy
 match i,hy with
 |0,hy=>
  obtain rfl:=YT hy;exact⟨b,0,rfl,Z5 h,by rw[Z0 h];rfl⟩
def Z1Y(a b c m:Int)(L:List Sf)(k:Int):Int:=if Zo a b c m L [k]=0 then(Zk (Zt a b c L L.length (λj=>j==k.toNat) m.toNat [] 0) L.length 0 (λj=>j==k.toNat)).length else 0
theorem Z6S(a b c m:Int)(base:Option Addr)(n cap:Nat)(L:List Sf)(k:Int)(w:World)(A1:L.length=n)(hn:n<=20)(hM:Meas w)(hS:RawA w base L):
 Calls prog 24 #[.agg #[a,b,c,m,.slice base n cap],k] w λe w'=>e= .returned (.tuple #[.int .i64 (Z1Y a b c m L k),.int .i64 (Zo a b c m L [k])])/\Ext w w':=by
 have ho:=λW hW ad hl=>Z3c a b c m base n cap L ad 1 1 [k] W A1 hn rfl (by omega) (hM.ext hW) (hS.ext hW) hl
 by_cases h:Zo a b c m L [k]=0
 ·obtain⟨hG,Ao,Nz,hm⟩:=Z1n h;have hk:=Ao k (by simp);obtain⟨q,rfl⟩:=VL hk.1;have hq:q<9:=by omega
  have R9:(0:Int)<=(q:Int):=by omega
  have Oy:(q:Int)<9:=by omega
  have hF:Z1Y a b c m L q=(Zk (Zt a b c L n (λj=>j==q) m.toNat [] 0) n 0 (λj=>j==q)).length:=by rw[Z1Y,YZ h,A1,UF]
  have Bz:=λW hW=>Z65 a b c m base n cap L (λj=>j==q) W hG A1 (by omega) hm (hM.ext hW) (hS.ext hW)
  rw[h] at ho⊢;rw[hF];generalize Zk (Zt a b c L n (λj=>j==q) m.toNat [] 0) n 0 (λj=>j==q)=Bs at Bz⊢;simp only[Zs] at Bz;clear hF h hk Ao;have hqs:q=3\/q=0\/q=1\/q=2\/q=4\/q=5\/q=6\/q=7\/q=8:=by omega
  clear hq R9 Oy;rcases hqs with rfl|rfl|rfl|rfl|rfl|rfl|rfl|rfl|rfl
  all_goals
   go_enter fk Tryz.func24,Tryz.ntmps24
   go_wp2_with (first
    |(go_at_call 55;refine(ho _ (by(repeat (with_reducible first|assumption|exact Ext.rfl' _|apply Ext.alloc|apply Ext.drew))) _ (Z7I (by simp only[Z3,Z2];exact YZ trivial))).mono ?_;rintro e w2 ⟨rfl,A4⟩
      have Ah:Ext w w2:=Ext.trans (by(repeat (with_reducible first|assumption|exact Ext.rfl' _|apply Ext.alloc|apply Ext.drew))) A4)
    |(go_at_call 59;refine(Bz _ (by(repeat (with_reducible first|assumption|exact Ext.rfl' _|apply Ext.alloc|apply Ext.drew|exact Ext.setCell (by(repeat (with_reducible first|assumption|exact Ext.rfl' _|apply Ext.alloc|apply Ext.drew))) _ _ (by simp only[Z2];have:=Ah.size;omega))))).mono ?_;rintro e w3 ⟨v,rfl,Tk,Ak⟩
      obtain⟨ao,cp,rfl⟩:=Tk.form))
   go_ret2;exact⟨rfl,((Ah.alloc _).alloc _).trans Ak⟩
 ·have hF:Z1Y a b c m L k=0:=by rw[Z1Y,XA h]
  have A9:(Zo a b c m L [k] !=0)=true:=by simpa using h
  rw[hF];generalize Zo a b c m L [k]=f at ho A9⊢;go_enter fk Tryz.func24,Tryz.ntmps24
  go_wp2_with (
   go_at_call 55;refine(ho _ (by(repeat (with_reducible first|assumption|exact Ext.rfl' _|apply Ext.alloc|apply Ext.drew))) _ (Z7I (by simp only[Z3,Z2];exact YZ trivial))).mono ?_;rintro e w2 ⟨rfl,A4⟩
   have Ah:Ext w w2:=Ext.trans (by(repeat (with_reducible first|assumption|exact Ext.rfl' _|apply Ext.alloc|apply Ext.drew))) A4)
  go_ret2;exact⟨rfl,Ah.alloc _⟩
def Z66(a b c m:Int)(L:List Sf):List (List Int):=if Zo a b c m L []=0 then Zk (Zt a b c L L.length (λ_=>false) m.toNat [] 0) L.length 0 (λ_=>false) else[]
def inL(S:List (List Int))(i:Nat):Bool:=S.any λl=>l.contains (i:Int)
def Z32(n:Nat)(S:List (List Int)):List Int:=((List.range n).filter λi=> !inL S i).map fun(i:Nat)=>(i:Int)
def Z6T(a b c m:Int)(L:List Sf):List Int:=if Zo a b c m L []=0 then Z32 L.length (Z66 a b c m L) else[]
theorem ZbX(S:List (List Int))(l:List Int)(i:Nat):inL (S++[l]) i=(inL S i||l.contains (i:Int)):=by simp[inL,List.any_append]
theorem Z8C(S:List (List Int))(i:Nat):Z32 (i+1) S=if inL S i=true then Z32 i S else Z32 i S++[(i:Int)]:=by
 rw[Z32,List.range_succ,List.filter_append,QT];cases h:inL S i<;>simp[Z32,h]
theorem Zaq(n:Nat)(S:List (List Int)):(Z32 n S).length<=n:=by
 have:=RK (λi=> !inL S i) (List.range n);simpa[Z32] using this
theorem Z3O{T:List (List Int)}:∀(d i:Nat)(u:Nat->Bool),∀l∈Zk T d i u,l∈T
 |0,_,_,l,h=>by cases h
 |d+1,i,u,l,h=>by
  have hb:∀(P:List Int->Prop)(a b:List (List Int)),(∀l∈a,P l)->(∀l∈b,P l)->∀l∈Z0q a b,P l:=λP a b h h'=>by unfold Z0q;split<;>assumption
  have hf:∀(B mo:List (List Int)),(∀l∈B,l∈T)->(∀l∈mo,l∈T)->∀l∈B.foldl (ZL u (Zk T d (i+1))) mo,l∈T:=by
   intro B
   induction B with
   |nil=>exact λmo _ h=>h
   |cons x B ih=>
    intro mo hB hm;rw[VM];refine ih _ (λl hl=>hB l (YW _ hl)) ?_;unfold ZL;split
    ·exact hm
    ·refine hb _ _ _ hm λl hl=> ?_
     rcases XE.1 hl with rfl|hl
     ·exact hB _ YY
     ·exact Z3O d (i+1) _ l hl
  rw[Zk] at h;exact hb _ _ _ (hf _ _ (λl hl=>(UP.1 hl).1) (λl hl=>by cases hl)) (λl hl=>Z3O d (i+1) u l hl) l h
theorem Zdw{ls:List (List Int)}(h:Shr B w v ls){j:Nat}{l:List Int}(hl:ls[j]? =some l)(h0:l≠[]):
 ∃gr cr gl cl,v= .slice (some ⟨gr,0,none⟩) ls.length cr/\B<=gr/\gr<w.heap.size/\w.cell? ⟨gr,j,none⟩=some (.slice (some ⟨gl,0,none⟩) l.length cl)/\OwnI B w (.slice (some ⟨gl,0,none⟩) l.length cl) l/\B<=gl/\gl<w.heap.size/\l.length<=cl:=by
 obtain⟨_,vs,h1,h2⟩:=h;have A1:=h2.length;have hj:j<ls.length:=(YI.1 hl).1;obtain⟨gr,cr,rfl,hb,hg⟩:=h1.form (by omega);obtain⟨u,hu,F2⟩:=h2.get j l hl;have hc:=h1.cells (g:=gr) rfl j u hu;rw[Z0c] at hc;have Gj:0<l.length:=List.length_pos_iff.2 h0;obtain⟨_,⟨h,_⟩|⟨gl,cl,cur,rfl,As,C7,D6,_⟩⟩:=F2
 ·subst h;rename_i hx hz;simp at hz;exact absurd hz h0
 ·rename_i hx hq;exact⟨gr,cr,gl,cl,by rw[A1],hb,hg,hc,⟨hx,.inr ⟨gl,cl,cur,rfl,As,C7,D6,hq⟩⟩,As,Z5 C7,D6⟩
theorem Shr.belowX{ls:List (List Int)}(h:Shr B w v ls)(hX:BelowX w.heap.size ib w w')(H7:ib<B):Shr B w' v ls:=by
 have key:∀{e:TypeId}{v:Value}{n:Nat}{xs:List Value},w.ownsRow B e 1 v n xs->w'.ownsRow B e 1 v n xs:=λh=>Z3d h λk hv=>hX.block k (h.lt k hv).2 (by have:=(h.lt k hv).1;omega)
 obtain⟨h0,vs,h1,h2⟩:=h;exact⟨h0,vs,key h1,h2.mono λu s h=>key h⟩
theorem Shr.le{B B':Nat}{w:World}{v:Value}{ls:List (List Int)}(h:Shr B w v ls)(hB:B'<=B):Shr B' w v ls:=by
 obtain⟨h0,vs,h1,h2⟩:=h;exact⟨h0,vs,Z05 h1 hB,h2.mono λu s h=>OwnI.le h hB⟩
theorem BelowX.of_ext{b:World}(h:BelowX B ib a b)(hE:Ext b c)(hB:B<=b.heap.size):BelowX B ib a c:=
 h.trans (Z15 hE hB)
theorem ZbY(a b c m:Int)(base:Option Addr)(n cap:Nat)(L:List Sf)(w:World)(A1:L.length=n)(hn:n<=20)(hM:Meas w)(hS:RawA w base L):
 Calls prog 23 #[.agg #[a,b,c,m,.slice base n cap]] w λe w'=>∃v1 v2,e= .returned (.tuple #[v1,v2,.int .i64 (Zo a b c m L [])])/\Shr w.heap.size w' v1 (Z66 a b c m L)/\OwnI w.heap.size w' v2 (Z6T a b c m L)/\Ext w w':=by
 have ho:=λW hW=>Z3c a b c m base n cap L none 0 0 [] W A1 hn rfl (by omega) (hM.ext hW) (hS.ext hW) (λi x hx=>by simp at hx)
 by_cases h:Zo a b c m L []=0
 ·obtain⟨hG,_,Nz,hm⟩:=Z1n h;have Nn:Z66 a b c m L=Zk (Zt a b c L n (λ_=>false) m.toNat [] 0) n 0 (λ_=>false):=by rw[Z66,YZ h,A1]
  have A0:Z6T a b c m L=Z32 n (Z66 a b c m L):=by rw[Z6T,YZ h,A1]
  have Bz:=λW hW=>Z65 a b c m base n cap L (λ_=>false) W hG A1 (by omega) hm (hM.ext hW) (hS.ext hW)
  have Ca:∀l∈Zk (Zt a b c L n (λ_=>false) m.toNat [] 0) n 0 (λ_=>false),(∀p∈l,0<=p/\p<(n:Int))/\l.length=m.toNat:=λl hl=>by
   have:=Z2A a b c L n (λ_=>false) m.toNat [] 0 l (Z3O _ _ _ l hl) (by simp) List.Pairwise.nil;exact⟨this.2.1,by simpa using this.2.2⟩
  have hSl:=Z2C (Zt a b c L n (λ_=>false) m.toNat [] 0) n 0 (λ_=>false);rw[A0,Nn];rw[h] at ho⊢;generalize Zk (Zt a b c L n (λ_=>false) m.toNat [] 0) n 0 (λ_=>false)=S at Bz Ca hSl⊢;simp only[Zs] at Bz;clear Nn A0 h;go_enter fk Tryz.func23,Tryz.ntmps23
  go_wp2_with (first
   |(go_at_call 55;refine(ho _ (by(repeat (with_reducible first|assumption|exact Ext.rfl' _|apply Ext.alloc|apply Ext.drew)))).mono ?_;rintro e w2 ⟨rfl,A4⟩
     have Ah:Ext w w2:=Ext.trans (by(repeat (with_reducible first|assumption|exact Ext.rfl' _|apply Ext.alloc|apply Ext.drew))) A4;have Gf:w2.heap[w.heap.size]? =some (.cells #[a,b,c,m,.slice base n cap] 26):=A4.get (by simp only[Z3,Z2];exact YZ trivial))
   |(go_at_call 59;refine(Bz _ (by(repeat (with_reducible first|assumption|exact Ext.rfl' _|apply Ext.alloc|apply Ext.drew)))).mono ?_;rintro e w3 ⟨v,rfl,Tk,Ak⟩
     obtain⟨ao,cp,rfl⟩:=Tk.form;have B4:Ext w w3:=Ext.trans (by(repeat (with_reducible first|assumption|exact Ext.rfl' _|apply Ext.alloc|apply Ext.drew))) Ak;have Ai:=((Ext.rfl' w2).alloc _).alloc _ |>.trans Ak |>.get Gf
     have H7:w3.heap[w2.heap.size+1]? =some (.cells (Zs (inL (S.take 0))) 125):=Ak.get (by simp only[Z3,Z2];exact YZ trivial);simp only[Z2] at Tk))
  have Yi:=Z5 H7;clear ho Bz A4 Ak;have Tl:=Z0 Ai 4;simp only[YC,YA,YB] at Tl;go_loopw [2,24] (λv2 v24 wr=>∃j,j<=S.length/\v24= .int .i64 j/\BelowX w3.heap.size (w2.heap.size+1) w3 wr/\wr.heap[w2.heap.size+1]? =some (.cells (Zs (inL (S.take j))) 125)/\Shr w3.heap.size wr v2 (S.take j)) (λ_ v24 _=>S.length - (intOf v24).toNat)
  case atStart=>exact⟨0,XS _,rfl,BelowX.refl _ _ _,H7,Shr.nil _ _⟩
  case round=>
   obtain⟨j,hj,rfl,hX,hi,Il⟩:=hrel;clear H7;by_cases Iz:j=S.length
   ·subst Iz;rw[UT] at hi Il;have F6:wr.cell? ⟨w.heap.size,4,none⟩=some (.slice base n cap):=by
     rw[<-Tl];simp only[World.cell?,hX.block w.heap.size (Z5 Ai) (by have:=Ah.size;omega)]
    have Dc:=hX.size;go_wp2;obtain⟨wo,rfl⟩:∃wo:World,wo=wr:=⟨_,rfl⟩;go_loopw [3,46] (λv3 v46 wz=>∃i:Nat,i<=n/\v46= .int .i64 i/\Ext wo wz/\OwnI wo.heap.size wz v3 (Z32 i S)) (λ_ v46 _=>n - (intOf v46).toNat)
    case atStart=>exact⟨0,XS _,rfl,Ext.rfl' _,VN _ _ _ _⟩
    case round=>
     obtain⟨i,Ao,rfl,Qm,Ac⟩:=hrel;by_cases Fw:i=n
     ·subst Fw;go_wp2;refine VE (results_tmp3 rfl _ _ _) rfl ?_;refine⟨_,_,rfl,(Il.ext Qm).le (by have:=B4.size;omega),Ac.le (by have:=B4.size;omega),?_⟩;exact(BelowX.ext hX B4 (by have:=Ah.size;omega) B4.size).trans Qm
     ·have A3:i<n:=(by omega);have V7:=Z0 (Qm.get hi) i;rw[Z1u _ i (by omega)] at V7;have Cj:(0:Int)<=(i:Int):=(by omega);have hi9:(i:Int)<9:=(by omega);have hiL:(i:Int)<(n:Int):=(by omega);have B8:=Zaq i S;have hsz2:=Qm.size;have Kh:=Z8C S i;cases hb:inL S i with
      |true=>
       rw[hb] at V7 Kh;rw[YZ rfl] at Kh;rw[<-Kh] at Ac;clear Kh B8;go_wp2;exact⟨⟨i+1,by omega,by push_cast;rfl,Qm,Ac⟩,by simp[intOf];omega⟩
      |false=>
       rw[hb] at V7 Kh;rw[XA (by decide)] at Kh;have Yj:Hid (Z32 (i+1) S=Z32 i S++[(i:Int)]):=Kh;clear Kh
       go_wp2_with (
        at_builtin
        refine UG _ rfl _ _ _ rfl wo.heap.size 3 Tryz.t3 (.int .i64 0) 1 8 Go.Proofs.Tryq.u27 i3 t3z t3s t3b rfl (by omega) _ _ _ rfl (Ac.alloc _) ⟨wr.heap.size,0,none⟩ 1 1 [.int .i64 i] rfl rfl (Z1N _ _ _) (by intro u hu;simp at hu;subst hu;rfl) (by simp[maxLen];omega) (by omega) (by simp;omega) ?_;intro v' w5 Hs Fi _;have Bv:Ext wo w5:=(Qm.alloc _).grown Fi (λk hk=>(Ac.lt k hk).1))
       exact⟨⟨i+1,by omega,by push_cast;rfl,Bv,by rw[Yj.out];simpa[OwnI] using Hs⟩,by simp[intOf];omega⟩
   ·have D3:j<S.length:=(by omega);obtain⟨l,hl⟩:∃l,S[j]? =some l:=⟨_,YH D3⟩;obtain⟨Qb,Qa⟩:=Ca l (YQ hl);have Gv:0<l.length:=(by omega);have Lu:l.length<=9:=(by omega);clear Qa;obtain⟨gr,cr,gl,cl,T2,T3,Lq,Ls,F2,T4,Jo,D6⟩:=Zdw Tk hl (by rintro rfl;simp at Gv);obtain⟨rfl,rfl⟩:ao=some ⟨gr,0,none⟩/\cp=cr:=(by simpa using T2);replace Ls:wr.cell? ⟨gr,j,none⟩=some (.slice (some ⟨gl,0,none⟩) l.length cl):=by
     rw[<-Ls];simp only[World.cell?,hX.block gr Lq (by omega)]
    have Cm:∀W,Ext wr W->∀(j:Nat) u,(l.map (Value.int .i64))[j]? =some u->W.cell? ⟨gl,j,none⟩=some u:=by
     intro W hW j u hu;have:=F2.cells (g:=gl) rfl j u hu;rw[Z0c] at this;refine hW.cellS ?_;rw[<-this];simp only[World.cell?,hX.block gl Jo (by omega)]
    have Jv:=λW hW=>Z60 gl l.length cl l W rfl Gv (by omega) D6 (by have:=hX.size;have:=(hW:Ext wr W).size;omega) (Cm W hW)
    obtain⟨a2,c2,rfl⟩:=Il.form;have P3:=Il;obtain⟨Qf,vs,En,Im⟩:=Il;have htl:(S.take j).length=j:=(by rw[UK];omega);have Lr:=Im.length;rw[Lr] at En;rw[htl] at En Qf Lr P3⊢;have hj0:(0:Int)<=(j:Int):=(by omega);have hjL:(j:Int)<(S.length:Int):=by omega
    go_wp2_with (first
     |(go_at_call 60;refine(Jv _ (by(repeat (with_reducible first|assumption|exact Ext.rfl' _|apply Ext.alloc|apply Ext.drew)))).mono ?_;rintro e w4 ⟨g',cap',rfl,ho4,Ak⟩)
     |(at_builtin
       refine UG _ rfl _ _ _ rfl w3.heap.size 57 Tryz.t57 (.slice none 0 0) 1 24 u57 i27 t27z t27s t27b rfl (by omega) (.slice a2 j c2) _ _ rfl ((Z00 En Ak).alloc _) ⟨w4.heap.size,0,none⟩ 1 1 [.slice (some ⟨g',0,none⟩) l.length cap'] rfl rfl (Z1N _ _ _) (by intro u hu;rw[XO.1 hu];rfl) (by simp[maxLen];omega) (by omega) (by simp only[Z2];have:=Ak.size;have:=hX.size;omega) ?_;intro v' w5 Hs Fi _))
    have Lv:(w4.alloc (.cells #[.slice (some ⟨g',0,none⟩) l.length cap'] 57)).grownBy w5 (Value.ownBlock (.slice a2 j c2)):=Fi;clear Fi;have Tn:Shr w3.heap.size (w4.alloc (.cells #[.slice (some ⟨g',0,none⟩) l.length cap'] 57)) (.slice a2 j c2) (S.take j):=(P3.ext Ak).ext ((Ext.rfl' w4).alloc _);have Wv:=hX.size;have Mo:=Ak.size;have To:BelowX w3.heap.size (w2.heap.size+1) w3 w5:=by
     refine(hX.of_ext (Ak.alloc (.cells #[.slice (some ⟨g',0,none⟩) l.length cap'] 57)) hX.size).trans ⟨Lv.os,Lv.tape,Lv.output,Lv.size,λk hk _=>Lv.block k (by simp only[Z2];omega) (λe=>by have:=(Tn.lt e.symm).1;omega)⟩
    have hi5:w5.heap[w2.heap.size+1]? =some (.cells (Zs (inL (S.take j))) 125):=(Lv.block _ (by simp only[Z2];omega) (λe=>by have:=(Tn.lt e.symm).1;omega)).trans (((Ak.alloc _).get hi));have Yd:Shr w3.heap.size w5 v' (S.take (j+1)):=by
     rw[Z0G hl];refine⟨λh=>by simp at h,vs++[.slice (some ⟨g',0,none⟩) l.length cap'],by simpa[Lr] using Hs,Each.append (Im.mono λu s h=>OwnI.grownRow (OwnI.ext (OwnI.ext h Ak) ((Ext.rfl' w4).alloc _)) Tn Lv) ⟨OwnI.grownRow (OwnI.ext (OwnI.le ho4 Wv) ((Ext.rfl' w4).alloc _)) Tn Lv,trivial⟩⟩
    clear Lv Tn En Im Lr Qf P3 Hs ho4 Ls Cm Jv;obtain⟨wo,rfl⟩:∃wo:World,wo=wr:=⟨_,rfl⟩;go_loopw [35] (λv35 wz=>∃k:Nat,k<=l.length/\v35= .int .i64 k/\BelowX w5.heap.size (w2.heap.size+1) w5 wz/\wz.heap[w2.heap.size+1]? =some (.cells (Zs (λi=>inL (S.take j) i||(l.take k).contains (i:Int))) 125)) (λv35 _=>l.length - (intOf v35).toNat)
    case atStart=>exact⟨0,XS _,rfl,BelowX.refl _ _ _,by rw[hi5,Z1o];intro i _;simp⟩
    case round=>
     obtain⟨k,hk,rfl,Mv,Tp⟩:=hrel;by_cases Fc:k=l.length
     ·subst Fc;rw[UT] at Tp;have Yk:wr.heap[w2.heap.size+1]? =some (.cells (Zs (inL (S.take (j+1)))) 125):=by
       rw[Tp,Z1o];intro i _;rw[Z0G hl,ZbX]
      have hXf:BelowX w3.heap.size (w2.heap.size+1) w3 wr:=To.trans ⟨Mv.os,Mv.tape,Mv.output,by have:=Mv.size;have:=To.size;omega,λk hk A9=>Mv.block k (by have:=To.size;omega) A9⟩;have hSf:=Yd.belowX Mv Yi;go_wp2;exact⟨⟨j+1,by omega,by push_cast;rfl,hXf,Yk,hSf⟩,by simp[intOf];omega⟩
     ·obtain⟨p,hp⟩:∃p,l[k]? =some p:=⟨_,YH (by omega)⟩;have Oi:=Qb p (YQ hp);obtain⟨q,rfl⟩:=VL Oi.1;have Oy:q<9:=(by omega);have Hb:=F2.cells (g:=gl) rfl k (.int .i64 q) (by rw[List.getElem?_map,hp];rfl);rw[Z0c] at Hb;replace Hb:wr.cell? ⟨gl,k,none⟩=some (.int .i64 q):=by
       rw[<-Hb];simp only[World.cell?,Mv.block gl (by have:=To.size;omega) (by omega),To.block gl Jo (by omega)]
      have hfq:=Z8 Tp q;have Qk:=Z0 Tp q;rw[Z1u _ q Oy] at Qk;generalize (inL (S.take j) q||(l.take k).contains (q:Int))=bq at Qk;have Y7:(0:Int)<=(k:Int):=(by omega);have hkL:(k:Int)<(l.length:Int):=(by omega);have R9:(0:Int)<=(q:Int):=(by omega);have Y8:(q:Int)<9:=(by omega);go_wp2;have hA:=VI wr ⟨w2.heap.size+1,q,none⟩ (.bool true);refine⟨⟨k+1,by omega,by push_cast;rfl,Mv.trans ⟨hA.os,hA.tape,hA.output,by rw[hA.size];exact XB _,λb _ A9=>hA.block b A9⟩,?_⟩,by simp[intOf];omega⟩;rw[Zb Tp,Z52 _ q Oy,Z1o];intro i _;have e9:(i==q)=decide ((i:Int)=(q:Int)):=(by rw[TQ];simp;omega);rw[Z0G hp,e9];simp[Bool.or_assoc]
 ·have Nn:Z66 a b c m L=[]:=by rw[Z66,XA h]
  have A0:Z6T a b c m L=[]:=by rw[Z6T,XA h]
  have A9:(Zo a b c m L [] !=0)=true:=by simpa using h
  rw[Nn,A0];generalize Zo a b c m L []=f at ho A9⊢;go_enter fk Tryz.func23,Tryz.ntmps23
  go_wp2_with (
   go_at_call 55;refine(ho _ (by(repeat (with_reducible first|assumption|exact Ext.rfl' _|apply Ext.alloc|apply Ext.drew)))).mono ?_;rintro e w2 ⟨rfl,A4⟩
   have Ah:Ext w w2:=Ext.trans (by(repeat (with_reducible first|assumption|exact Ext.rfl' _|apply Ext.alloc|apply Ext.drew))) A4)
  refine VE (results_tmp3 rfl _ _ _) rfl ?_;exact⟨_,_,rfl,Shr.nil _ _,VN _ _ _ _,Ah.alloc _⟩
section
variable [Tw]
theorem Z3P(a b:Int)(w:World):Calls gp 30 #[a,b] w λe w'=>e= .returned (.agg #[a,b])/\Ext w w':=by
 go_enter fk Tryz.func30,Tryz.ntmps30;go_wp2;refine VE (v:= .agg #[a,b]) ((Z07 rfl _ _ _).trans ?_) rfl ⟨rfl,(Ext.rfl' w).alloc _⟩;simp[go_sem]
theorem ZP{a b:Bool}(h:a=b):Ending.returned (.bool a)=Ending.returned (.bool b):=by rw[h]
theorem Z1Z{α:Type}{l:List α}(h:l.length=n):l.drop n=[]:=by rw[<-h,TB]
theorem Z54{α:Type}[DecidableEq α]{l k:List α}{i:Nat}{x y:α}(hx:l[i]? =some x)(hy:k[i]? =some y):decide (l.drop i=k.drop i)=(decide (x=y)&&decide (l.drop (i+1)=k.drop (i+1))):=by
 rw[Z0b hx,Z0b hy,TQ];simp
theorem Z1d(a1:Option Addr)(n1 c1:Nat)(l:List Int)(a2:Option Addr)(n2 c2:Nat)(k:List Int)(w:World)(h1:l.length=n1)(h2:k.length=n2)(hb:n1<=1000000/\n2<=1000000)(hl:RawI w a1 l)(hk:RawI w a2 k):
 Calls gp 35 #[.slice a1 n1 c1,.slice a2 n2 c2] w λe w'=>e= .returned (.bool (decide (l=k)))/\Ext w w':=by
 by_cases hn:n1=n2
 ·have H:Hid (decide (l=k)=decide (l.drop 0=k.drop 0)):=rfl;subst hn;obtain⟨n,hn⟩:∃n,n=n1:=⟨_,rfl⟩;subst hn;go_enter fk Tryz.func35,Tryz.ntmps35;go_wp2;go_loopw [5] (λv wr=>∃i:Nat,i<=n/\v= .int .i64 i/\Ext w wr/\Hid (decide (l=k)=decide (l.drop i=k.drop i))) (λv _=>n - (intOf v).toNat)
  case atStart=>exact⟨0,XS _,rfl,Ext.rfl' w,H⟩
  case round=>
   obtain⟨i,hi,rfl,hE,hH⟩:=hrel;clear H;by_cases Ao:i=n
   ·subst Ao;have hz:decide (l=k)=true:=(by rw[hH.out,Z1Z h1,Z1Z h2];rfl);go_wp2;go_ret;exact⟨ZP (a:=true) hz.symm,hE⟩
   ·have A3:i<n:=(by omega);obtain⟨x,hx⟩:∃x,l[i]? =some x:=⟨_,YH (by omega)⟩;obtain⟨y,hy⟩:∃y,k[i]? =some y:=⟨_,YH (by omega)⟩;obtain⟨ba,oa,rfl,Pn,Fx⟩:=(hl.ext hE) i x hx;obtain⟨bb,ob,rfl,Rv,hyb⟩:=(hk.ext hE) i y hy;go_wp2_with fail;have gz0:=Zet Fx;have gz1:=Zet hyb;refine ZeG 9 (by kernel_rfl) ?_;refine ZeB [0,1,2,3,4,5,6,7,8] (by kernel_rfl) (by kernel_rfl) ?_;simp only[ZeD,YB,YA,YK,YJ]
    repeat (go_big_quiet_step (fail))
    refine XU ?_;refine Zf6 (by kernel_rfl) (λW hW=> ?_);have Bf:=hW;clear gz0 gz1;have C6:=hE.trans Bf;by_cases Cz:x=y
    ·have hb:(x !=y)=false:=(by simpa using Cz);have Eu:Hid (decide (l=k)=decide (l.drop (i+1)=k.drop (i+1))):=(by show _=_;rw[hH.out,Z54 hx hy,XX Cz,TL]);rw[hb];clear hb;go_wp2;go_roundw
     case rel=>exact⟨i+1,by omega,by push_cast;rfl,C6,Eu⟩
     case measure=>simp[intOf];omega
    ·have hb:(x !=y)=true:=(by simpa using Cz);have Eu:decide (l=k)=false:=(by rw[hH.out,Z54 hx hy,XV Cz,QA]);rw[hb];clear hb;go_wp2;go_ret;exact⟨ZP (a:=false) Eu.symm,C6⟩
 ·have hz:decide (l=k)=false:=XV λh=>hn (by rw[<-h1,<-h2,h])
  have hnn:¬(n1:Int)=(n2:Int):=by omega
  go_enter fk Tryz.func35,Tryz.ntmps35;go_wp2;go_ret;exact⟨ZP (a:=false) hz.symm,Ext.rfl' w⟩
def RawL(w:World)(base:Option Addr)(ls:List (List Int)):Prop:=∀(i:Nat)(l:List Int),ls[i]? =some l->∃b off ad cp,base=some ⟨b,off,none⟩/\b<w.heap.size/\w.cell? ⟨b,off+i,none⟩=some (.slice ad l.length cp)/\l.length<=1000000/\RawI w ad l
theorem RawL.ext{w w':World}{base:Option Addr}{ls:List (List Int)}(h:RawL w base ls)(e:Ext w w'):RawL w' base ls:=by
 intro i l hi;obtain⟨b,off,ad,cp,h1,h2,h3,h4,h5⟩:=h i l hi;exact⟨b,off,ad,cp,h1,e.lt h2,e.cellS h3,h4,h5.ext e⟩
theorem OwnI.rawI(h:OwnI b w v l):∃ao cp,v= .slice ao l.length cp/\RawI w ao l/\l.length<=cp:=by
 by_cases h0:l=[]
 ·subst h0;rcases h.2 with⟨rfl,_⟩|⟨g,cp,_,rfl,_⟩
  ·exact⟨none,0,rfl,λi x hx=>by simp at hx,XS _⟩
  ·exact⟨_,cp,rfl,λi x hx=>by simp at hx,XS _⟩
 ·rcases h.2 with⟨rfl,hz⟩|⟨g,cp,cur,rfl,hb,hg,D6,hr⟩
  ·simp at hz;exact absurd hz h0
  ·exact⟨_,cp,rfl,OwnI.raw (b:=b) ⟨h.1,.inr ⟨g,cp,cur,rfl,hb,hg,D6,hr⟩⟩,D6⟩
theorem Shr.rawL{ls:List (List Int)}(h:Shr b w v ls)(hb:∀l∈ls,l.length<=1000000):∃ao cp,v= .slice ao ls.length cp/\RawL w ao ls:=by
 obtain⟨ao,cp,rfl⟩:=h.form;refine⟨ao,cp,rfl,λi l hl=> ?_⟩;obtain⟨_,vs,h1,h2⟩:=h;have A1:=h2.length;have hi:=(YI.1 hl).1;obtain⟨g,cr,he,_,hg⟩:=h1.form (by omega);obtain⟨rfl,_⟩:ao=some ⟨g,0,none⟩/\_:=by simpa using he
 obtain⟨u,hu,F2⟩:=h2.get i l hl;have hc:=h1.cells (g:=g) rfl i u hu;rw[Z0c] at hc;obtain⟨ad,cu,rfl,hr,_⟩:=F2.rawI;exact⟨g,0,ad,cu,rfl,hg,by rw[UA];exact hc,hb l (YQ hl),hr⟩
theorem Z55(a1:Option Addr)(n1 c1:Nat)(l:List (List Int))(a2:Option Addr)(n2 c2:Nat)(k:List (List Int))(w:World)(h1:l.length=n1)(h2:k.length=n2)(hb:n1<=1000000/\n2<=1000000)(hl:RawL w a1 l)(hk:RawL w a2 k):
 Calls gp 34 #[.slice a1 n1 c1,.slice a2 n2 c2] w λe w'=>e= .returned (.bool (decide (l=k)))/\Ext w w':=by
 by_cases hn:n1=n2
 ·have H:Hid (decide (l=k)=decide (l.drop 0=k.drop 0)):=rfl;subst hn;obtain⟨n,hn⟩:∃n,n=n1:=⟨_,rfl⟩;subst hn;go_enter fk Tryz.func34,Tryz.ntmps34;go_wp2;go_loopw [5] (λv wr=>∃i:Nat,i<=n/\v= .int .i64 i/\Ext w wr/\Hid (decide (l=k)=decide (l.drop i=k.drop i))) (λv _=>n - (intOf v).toNat)
  case atStart=>exact⟨0,XS _,rfl,Ext.rfl' w,H⟩
  case round=>
   obtain⟨i,hi,rfl,hE,hH⟩:=hrel;clear H;by_cases Ao:i=n
   ·subst Ao;have hz:decide (l=k)=true:=(by rw[hH.out,Z1Z h1,Z1Z h2];rfl);go_wp2;go_ret;exact⟨ZP (a:=true) hz.symm,hE⟩
   ·have A3:i<n:=(by omega);obtain⟨x,hx⟩:∃x,l[i]? =some x:=⟨_,YH (by omega)⟩;obtain⟨y,hy⟩:∃y,k[i]? =some y:=⟨_,YH (by omega)⟩;obtain⟨ba,oa,ax,cx,rfl,Pn,Fx,hxn,hxr⟩:=(hl.ext hE) i x hx;obtain⟨bb,ob,ay,cy,rfl,Rv,hyb,hyn,hyr⟩:=(hk.ext hE) i y hy;go_wp2_with fail;have gz0:=Zet Fx;have gz1:=Zet hyb;refine ZeG 10 (by kernel_rfl) ?_;refine ZeB [0,1,2,3,4,5,6,7] (by kernel_rfl) (by kernel_rfl) ?_;simp only[ZeD,YB,YA,YK,YJ]
    repeat (go_big_quiet_step (fail))
    refine XU ?_;refine ZeX 8 (f:=35) (args:= #[.slice ax x.length cx,.slice ay y.length cy]) (v:= .bool (decide (x=y))) (by kernel_rfl) rfl (by kernel_rfl) rfl (λW=>by simp[go_sem,execOp,Act.eval]) (λW hW=>Z1d ax x.length cx x ay y.length cy y _ rfl rfl ⟨hxn,hyn⟩ (hxr.ext hW) (hyr.ext hW)) ?_;go_simp;refine ZeB [9] (by kernel_rfl) (by kernel_rfl) ?_;simp only[ZeD,YB,YA,YK,YJ]
    repeat (go_big_quiet_step (fail))
    refine XU ?_;refine Zf6 (by kernel_rfl) (λW hW=> ?_);have Bf:=hW;clear gz0 gz1;have C6:=hE.trans Bf;by_cases Cz:x=y
    ·have hb:(!decide (x=y))=false:=(by simpa using Cz);have Eu:Hid (decide (l=k)=decide (l.drop (i+1)=k.drop (i+1))):=(by show _=_;rw[hH.out,Z54 hx hy,XX Cz,TL]);rw[hb];clear hb;go_wp2;go_roundw
     case rel=>exact⟨i+1,by omega,by push_cast;rfl,C6,Eu⟩
     case measure=>simp[intOf];omega
    ·have hb:(!decide (x=y))=true:=(by simpa using Cz);have Eu:decide (l=k)=false:=(by rw[hH.out,Z54 hx hy,XV Cz,QA]);rw[hb];clear hb;go_wp2;go_ret;exact⟨ZP (a:=false) Eu.symm,C6⟩
 ·have hz:decide (l=k)=false:=XV λh=>hn (by rw[<-h1,<-h2,h])
  have hnn:¬(n1:Int)=(n2:Int):=by omega
  go_enter fk Tryz.func34,Tryz.ntmps34;go_wp2;go_ret;exact⟨ZP (a:=false) hz.symm,Ext.rfl' w⟩
theorem Z4r(n lo hi:Int)(w:World):Calls gp 52 #[n,lo,hi] w λe w'=>e= .returned (.bool (decide (lo<=n/\n<=hi)))/\w'=w:=by
 by_cases h1:lo<=n
 ·by_cases h2:n<=hi
  ·go_enter fk Tryz.func52,Tryz.ntmps52;go_wp2;go_ret;exact⟨ZP (a:=true) (by rw[TQ];simp<;>omega),rfl⟩
  ·go_enter fk Tryz.func52,Tryz.ntmps52;go_wp2;go_ret;exact⟨ZP (a:=false) (by rw[TQ];simp<;>omega),rfl⟩
 ·go_enter fk Tryz.func52,Tryz.ntmps52;go_wp2;go_ret;exact⟨ZP (a:=false) (by rw[TQ];simp<;>omega),rfl⟩
def inR(n lo hi:Int):Bool:=decide (lo<=n/\n<=hi)
theorem Zgc(n lo hi:Int)(w:World):Calls gp 52 #[n,lo,hi] w λe w'=>e= .returned (.bool (inR n lo hi))/\w'=w:=Z4r n lo hi w
theorem Z2e(a b lo hi:Int)(w:World):Calls gp 54 #[.agg #[a,b],lo,hi] w λe w'=>e= .returned (.bool (decide (lo<=a/\a<=b/\b<=hi)))/\Ext w w':=by
 have hr:=λn w=>Zgc n lo hi w
 have H:Hid (decide (lo<=a/\a<=b/\b<=hi)=(inR a lo hi&&(inR b lo hi&&decide (a<=b)))):=by
  show _=_;simp only[inR];rw[TQ];simp;omega
 cases h1:inR a lo hi with
 |false=>
  have Bj:=hr a;simp only[h1] at Bj;rw[h1] at H;go_enter fk Tryz.func54,Tryz.ntmps54;go_wp2_with (go_at_call 52;(with_reducible refine(Bj _).mono ?_);rintro e w2 ⟨rfl,rfl⟩);go_ret;exact⟨ZP (a:=false) (by rw[H.out];simp),(Ext.rfl' w).alloc _⟩
 |true=>
  have Bj:=hr a;simp only[h1] at Bj;rw[h1] at H;cases h2:inR b lo hi with
  |false=>
   have Bh:=hr b;simp only[h2] at Bh;rw[h2] at H;go_enter fk Tryz.func54,Tryz.ntmps54;go_wp2_with (first|(go_at_call 52;(with_reducible refine(Bj _).mono ?_);rintro e w2 ⟨rfl,rfl⟩)|(go_at_call 52;(with_reducible refine(Bh _).mono ?_);rintro e w2 ⟨rfl,rfl⟩));go_ret;exact⟨ZP (a:=false) (by rw[H.out];simp),(Ext.rfl' w).alloc _⟩
  |true=>
   have Bh:=hr b;simp only[h2] at Bh;rw[h2] at H;go_enter fk Tryz.func54,Tryz.ntmps54;go_wp2_with (first|(go_at_call 52;(with_reducible refine(Bj _).mono ?_);rintro e w2 ⟨rfl,rfl⟩)|(go_at_call 52;(with_reducible refine(Bh _).mono ?_);rintro e w2 ⟨rfl,rfl⟩));go_ret;exact⟨ZP (a:=decide (a<=b)) (by rw[H.out];simp),(Ext.rfl' w).alloc _⟩
theorem Z4s(c:UInt8)(w:World):Calls gp 97 #[.int .u8 c.toNat] w λe w'=>e= .returned (.bool (Z8N c.toNat))/\w'=w:=by
 by_cases h1:(97:Int)<=c.toNat
 ·by_cases h2:(c.toNat:Int)<=122
  ·go_enter fk Tryz.func97,Tryz.ntmps97;go_wp2;go_ret;exact⟨ZP (a:=true) (XX (by omega)).symm,rfl⟩
  ·go_enter fk Tryz.func97,Tryz.ntmps97;go_wp2;go_ret;exact⟨ZP (a:=false) (XV (by omega)).symm,rfl⟩
 ·go_enter fk Tryz.func97,Tryz.ntmps97;go_wp2;go_ret;exact⟨ZP (a:=false) (XV (by omega)).symm,rfl⟩
theorem ZaO(c:UInt8)(w:World):Calls gp 98 #[.int .u8 c.toNat] w λe w'=>e= .returned (.bool (Ze0 c.toNat))/\w'=w:=by
 by_cases h1:(48:Int)<=c.toNat
 ·by_cases h2:(c.toNat:Int)<=57
  ·go_enter fk Tryz.func98,Tryz.ntmps98;go_wp2;go_ret;exact⟨ZP (a:=true) (XX (by omega)).symm,rfl⟩
  ·go_enter fk Tryz.func98,Tryz.ntmps98;go_wp2;go_ret;exact⟨ZP (a:=false) (XV (by omega)).symm,rfl⟩
 ·go_enter fk Tryz.func98,Tryz.ntmps98;go_wp2;go_ret;exact⟨ZP (a:=false) (XV (by omega)).symm,rfl⟩
theorem Z70(s:ByteArray)(w:World)(hs:s.size<=maxLen):Calls gp 53 #[.string s] w λe w'=>e= .returned (.bool (Z2d s))/\w'=w:=by
 unfold maxLen at hs;by_cases B1:1<=s.size/\s.size<=12
 ·have D1:0<s.size:=by omega
  have hN:Z2d s=(Z8N (s[0].toNat:Int)&& !s.data.toList.any ZM):=by
   rw[Z2d,Z5A s D1,XX B1,TL]
  rw[hN];clear hN;have I2:(0:Int)<=(s[0].toNat:Int):=by omega
  have B9:(s[0].toNat:Int)<256:=by have:=s[0].toNat_lt;omega
  have Dh:(1:Int)<=(s.size:Int):=by omega
  have Cn:(s.size:Int)<=12:=by omega
  clear B1;have Dx:=λw=>Z4r (s.size:Int) 1 12 w
  rw[XX (show(1:Int)<=s.size/\(s.size:Int)<=12 from⟨Dh,Cn⟩)] at Dx;have Bw:=λw=>Z4s s[0] w
  cases hl:Z8N (s[0].toNat:Int) with
  |false=>
   rw[hl] at Bw;clear hl Dh Cn;go_enter fk Tryz.func53,Tryz.ntmps53
   go_wp2_with (first
    |(go_at_call 52;(with_reducible refine(Dx _).mono ?_);rintro e w ⟨rfl,rfl⟩)
    |(go_at_call 97;(with_reducible refine(Bw _).mono ?_);rintro e w ⟨rfl,rfl⟩))
   go_ret;exact⟨rfl,rfl⟩
  |true=>
   rw[hl] at Bw;rw[TL];clear hl;have H:Hid ((s.data.toList.drop 0).any ZM=s.data.toList.any ZM):=rfl;go_enter fk Tryz.func53,Tryz.ntmps53
   go_wp2_with (first
    |(go_at_call 52;(with_reducible refine(Dx _).mono ?_);rintro e w ⟨rfl,rfl⟩)
    |(go_at_call 97;(with_reducible refine(Bw _).mono ?_);rintro e w ⟨rfl,rfl⟩))
   go_loopw [3] (λv wr=>∃i:Nat,i<=s.size/\v= .int .i64 i/\wr=w/\Hid ((s.data.toList.drop i).any ZM=s.data.toList.any ZM)) (λv _=>s.size - (intOf v).toNat)
   case atStart=>exact⟨0,XS _,rfl,rfl,H⟩
   case round=>
    obtain⟨i,hi,rfl,rfl,hH⟩:=hrel;clear H Bw Dx;by_cases Ao:i=s.size
    ·have hz:s.data.toList.any ZM=false:=by
      rw[<-hH.out,TJ (by rw[SZ];exact TU Ao.symm)];rfl
     clear hH;have Fd:(i:Int)=(s.size:Int):=(by omega);go_wp2;go_ret;exact⟨ZP (a:=true) (by rw[hz];rfl),rfl⟩
    ·have A3:i<s.size:=(by omega);have hx:s.data.toList[i]? =some s[i]:=(by rw[Array.getElem?_toList];exact YN A3);have Ai:Hid (s.data.toList.any ZM=(ZM s[i]||(s.data.toList.drop (i+1)).any ZM)):=(by show _=_;rw[<-hH.out,Z0b hx,List.any_cons]);clear hH;have Bw:=λw=>Z4s s[i] w
     have Dv:=λw=>ZaO s[i] w
     have Cj:(0:Int)<=(i:Int):=(by omega);have hiL:(i:Int)<(s.size:Int):=(by omega);have go_on:∀{v:Nat->Nat},ZM s[i]=false->Hid ((s.data.toList.drop (i+1)).any ZM=s.data.toList.any ZM):=λhb=>by show _=_;rw[Ai.out,hb,TV]
     have Bp:ZM s[i]=(!Z8N (s[i].toNat:Int)&& !Ze0 (s[i].toNat:Int)):=rfl;cases h1:Z8N (s[i].toNat:Int) with
     |true=>
      rw[h1] at Bw Bp;have hg:=go_on (v:=id) Bp;clear h1 go_on Bp Ai
      go_wp2_with (first
       |(go_at_call 97;(with_reducible refine(Bw _).mono ?_);rintro e w ⟨rfl,rfl⟩))
      exact⟨⟨i+1,by omega,by push_cast;rfl,trivial,hg⟩,by simp[intOf];omega⟩
     |false=>
      rw[h1] at Bw Bp;cases h2:Ze0 (s[i].toNat:Int) with
      |true=>
       rw[h2] at Dv Bp;have hg:=go_on (v:=id) Bp;clear h1 h2 go_on Bp Ai
       go_wp2_with (first
        |(go_at_call 97;(with_reducible refine(Bw _).mono ?_);rintro e w ⟨rfl,rfl⟩)
        |(go_at_call 98;(with_reducible refine(Dv _).mono ?_);rintro e w ⟨rfl,rfl⟩))
       exact⟨⟨i+1,by omega,by push_cast;rfl,trivial,hg⟩,by simp[intOf];omega⟩
      |false=>
       rw[h2] at Dv Bp;have hz:s.data.toList.any ZM=true:=(by rw[Ai.out,Bp];rfl);clear h1 h2 go_on Bp Ai
       go_wp2_with (first
        |(go_at_call 97;(with_reducible refine(Bw _).mono ?_);rintro e w ⟨rfl,rfl⟩)
        |(go_at_call 98;(with_reducible refine(Dv _).mono ?_);rintro e w ⟨rfl,rfl⟩))
       go_ret;exact⟨ZP (a:=false) (by rw[hz];rfl),rfl⟩
 ·have hN:Z2d s=false:=by rw[Z2d,XV B1];rfl
  rw[hN];have hd:decide (1<=(s.size:Int)/\(s.size:Int)<=12)=false:=XV (by omega);have Cc:=λw=>Z4r (s.size:Int) 1 12 w
  rw[hd] at Cc;clear hN hd;go_enter fk Tryz.func53,Tryz.ntmps53
  go_wp2_with (first
   |(go_at_call 52;refine(Cc _).mono ?_;rintro e w ⟨rfl,rfl⟩))
  go_ret;exact⟨rfl,rfl⟩
end
end Go.Proofs.Tryq
