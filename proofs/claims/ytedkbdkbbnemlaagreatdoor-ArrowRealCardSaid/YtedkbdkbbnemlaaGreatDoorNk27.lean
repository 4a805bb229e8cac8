import Derived.Test.YtedkbdkbbnemlaaGreatDoorNk26
import Derived.ArgAppend
set_option linter.all false
namespace Go.Proofs.Tryq
set_option maxRecDepth 100000
set_option maxHeartbeats 4000000
open Go Go.Nk Go.RowKit
open Go.Maps (Keyed)
open Go.ChangeMaps (setBlock)
theorem Zif{X:Nat→Prop}(w:World){b:Nat}(hx:X b)(o:Obj):ExtX X w (setBlock w b o):=
 ⟨by rw[Z2s];exact Nat.le_refl _,fun k _ hn=>Z0O (fun e=>hn (by rw[e];exact hx)) _,rfl,rfl,rfl⟩
theorem Z65(a b c m:Int)(base:Option Addr)(n cap:Nat)(L:List Sf)(out:Nat→Bool)(w:World)(hG:Good a b c L)(hlen:L.length=n)(hn:n≤9)(hm:2≤m∧m≤4)(hM:Meas w)(hS:RawA w base L):
 Calls prog 100 #[.agg #[.int .i64 a,.int .i64 b,.int .i64 c,.int .i64 m,.slice base n cap],.agg (Zs out)] w fun e w'=>∃v,e= .returned v∧Shr w.heap.size w' v (Zk (Zt a b c L n out m.toNat [] 0) n 0 out)∧Ext w w':=by
 have hsets:=fun W (hW:Ext w W)=>ZbU a b c m base n cap L out W hG hlen hn hm (hM.ext hW) (hS.ext hW)
 have hT1:∀l∈Zt a b c L n out m.toNat [] 0,l.Pairwise (·<·)∧(∀p∈l,0≤p∧p<(n:Int))∧l.length=m.toNat:=fun l hl=>by
  have:=Z2A a b c L n out m.toNat [] 0 l hl (by simp) List.Pairwise.nil
  exact⟨this.1,this.2.1,by simpa using this.2.2⟩
 have hTl:(Zt a b c L n out m.toNat [] 0).length≤100000:=by
  refine Nat.le_trans (Z3L a b c L n out hn m.toNat [] 0) ?_
  have:m.toNat=2∨m.toNat=3∨m.toNat=4:=by omega
  rcases this with h|h|h<;>rw[h]<;>decide
 have hTe:Z62 (Zt a b c L n out m.toNat [] 0):=Z6R a b c L n m.toNat out
 generalize Zt a b c L n out m.toNat [] 0=T at hsets hT1 hTl hTe⊢
 have hmm:= @run_makeMap prog
 simp only[Zs] at hsets⊢
 go_enter func100,ntmps100
 go_wp2_with (
  go_at_call 115;refine(hsets _ (((((Ext.rfl' w).alloc _).alloc _).alloc _).alloc _)).mono ?_;rintro e w2 ⟨v,vs,rfl,hvs,hve,hE2⟩
  have hE3:Ext w w2:=Ext.trans (((((Ext.rfl' w).alloc _).alloc _).alloc _).alloc _) hE2
  have g0:w2.heap[w.heap.size]? =some (.cells #[.int .i64 a,.int .i64 b,.int .i64 c,.int .i64 m,.slice base n cap] 120):=hE2.get (by simp only[Z3,Z2];rw[if_neg (by omega),if_neg (by omega),if_neg (by omega),if_pos trivial])
  have g1:w2.heap[w.heap.size+1]? =some (.cells (Zs out) 138):=hE2.get (by simp only[Z3,Z2];rw[if_neg (by omega),if_neg (by omega),if_pos trivial];rfl)
  have g2:w2.heap[w.heap.size+1+1]? =some (.map #[] 0):=hE2.get (by simp only[Z3,Z2];rw[if_neg (by omega),if_pos trivial])
  have g3:w2.heap[w.heap.size+1+1+1]? =some (.cells #[.map (some (w.heap.size+1+1))] 182):=hE2.get (by simp only[Z3,Z2];rw[if_pos trivial])
  have hB2:w.heap.size+4≤w2.heap.size:=by have:=hE2.size;simp only[Z2] at this;omega
  replace hvs:=Z05 hvs (show w.heap.size≤_ by simp only[Z2];omega)
  replace hve:=hve.mono fun u s h=>OwnI.le h (show w.heap.size≤_ by simp only[Z2];omega)
  clear hE2
  obtain⟨ao,cp,rfl⟩:∃ao cp,v= .slice ao vs.length cp:=by
   rcases hvs.2 with⟨rfl,h⟩|⟨g,cp,_,rfl,_⟩
   ·exact⟨none,0,by rw[h]⟩
   ·exact⟨_,cp,rfl⟩)
 clear hsets hmm
 have hvl:=hve.length
 rw[hvl] at hvs⊢
 obtain⟨B,hB⟩:∃B,B=w.heap.size:=⟨_,rfl⟩
 rw[←hB] at hvs hve
 have hby0:ByAt B w2.heap.size n (w.heap.size+1+1) (T.take 0) w2:=by
  refine⟨fun _=>none,⟨#[],0,g2,by simp,by simp,by simp,by simp⟩,fun i hi=>Shr.nil _ _,fun i j _ _ _=> .inl rfl,fun i hi k hk=>by cases hk⟩
 go_loopw [15] (fun v15 wr=>∃j:Nat,j≤T.length∧v15= .int .i64 j∧Map1 (w.heap.size+1+1) w2 wr∧ByAt B w2.heap.size n (w.heap.size+1+1) (T.take j) wr) (fun v15 _=>T.length - (intOf v15).toNat)
 case atStart=>exact⟨0,Nat.zero_le _,rfl,Map1.refl _ _,hby0⟩
 case round=>
  obtain⟨j,hj,rfl,hX,hBy⟩:=hrel
  clear hby0
  by_cases hjl:j=T.length
  ·subst hjl
   rw[List.take_length] at hBy
   obtain⟨G,hmap,hrows,_,_⟩:=hBy
   have hEr:Ext w wr:=BelowX.ext hX hE3 (by omega) hE3.size
   have hwsz:=hX.size
   have g5:=(hX.block _ (Z5 g0) (by omega)).trans g0
   have g6:=(hX.block _ (Z5 g1) (by omega)).trans g1
   have g7:=(hX.block _ (Z5 g3) (by omega)).trans g3
   have z0:=Z0 g6 0;have z1:=Z0 g6 1;have z2:=Z0 g6 2;have z3:=Z0 g6 3;have z4:=Z0 g6 4;have z5:=Z0 g6 5;have z6:=Z0 g6 6;have z7:=Z0 g6 7;have z8:=Z0 g6 8
   simp only[Zs,List.getElem?_toArray,List.getElem?_cons_zero,List.getElem?_cons_succ] at z0 z1 z2 z3 z4 z5 z6 z7 z8
   have hrec:∀W,W=(((wr.alloc (.map #[] 0)).alloc (.cells #[.map (some wr.heap.size)] 183)).alloc (.cells #[.func (.func 145) #[] #[.pointer (some ⟨w.heap.size,0,none⟩),.pointer (some ⟨wr.heap.size+1,0,none⟩),.pointer (some ⟨w.heap.size+1+1+1,0,none⟩),.pointer (some ⟨wr.heap.size+1+1,0,none⟩)]] 184))→
    Calls prog 145 #[.int .i64 0,.agg (Zs out),.pointer (some ⟨w.heap.size,0,none⟩),.pointer (some ⟨wr.heap.size+1,0,none⟩),.pointer (some ⟨w.heap.size+1+1+1,0,none⟩),.pointer (some ⟨wr.heap.size+1+1,0,none⟩)] W fun e W'=>∃v,e= .returned v∧Shr B W' v (Zk T n 0 out)∧Ext w W':=by
    intro W hW
    have hEW:Ext wr W:=by rw[hW];exact(((Ext.rfl' wr).alloc _).alloc _).alloc _
    have k0:W.heap[wr.heap.size]? =some (.map #[] 0):=by rw[hW];simp only[Z3,Z2];rw[if_neg (by omega),if_neg (by omega),if_pos trivial]
    have k1:W.heap[wr.heap.size+1]? =some (.cells #[.map (some wr.heap.size)] 183):=by rw[hW];simp only[Z3,Z2];rw[if_neg (by omega),if_pos trivial]
    have k2:W.heap[wr.heap.size+1+1]? =some (.cells #[.func (.func 145) #[] #[.pointer (some ⟨w.heap.size,0,none⟩),.pointer (some ⟨wr.heap.size+1,0,none⟩),.pointer (some ⟨w.heap.size+1+1+1,0,none⟩),.pointer (some ⟨wr.heap.size+1+1,0,none⟩)]] 184):=by rw[hW];simp only[Z3,Z2];rw[if_pos trivial]
    have hkm:MapAt prog 138 W wr.heap.size (fun _=>none):=⟨#[],0,k0,by simp,by simp,by simp,by simp⟩
    have hyl:=hmap.lt
    refine(Z8B a b c m base n cap T B w.heap.size (wr.heap.size+1) (w.heap.size+1+1+1) (wr.heap.size+1+1) wr.heap.size (w.heap.size+1+1) hn hTe (by omega) (fun l hl=>⟨(hT1 l hl).2.1,by rw[(hT1 l hl).2.2];omega⟩) n 0 out W (fun _=>none) (by omega)
     ⟨hEW.get g5,k1,hEW.get g7,k2,⟨G,hmap.keep (hEW.old _ hyl),fun i hi=>(hrows i hi).ext hEW⟩,⟨by omega,by omega,by omega,by omega,by omega⟩,by have:=hEW.size;omega⟩ ⟨hkm,fun key v hv=>by cases hv⟩).mono ?_
    rintro e W' ⟨v,G',rfl,hS',hK',hM'⟩
    exact⟨v,rfl,hS',BelowX.ext hM' (hEr.trans hEW) hEr.size (hEr.trans hEW).size⟩
   simp only[Zs] at hrec
   have hmm:= @run_makeMap prog
   clear hX hrows hmap
   have hl6:=Z5 g6
   have hzz:∀(o1 o2 o3:Obj)(k:Nat),(((wr.alloc o1).alloc o2).alloc o3).cell? ⟨w.heap.size+1,k,none⟩=wr.cell? ⟨w.heap.size+1,k,none⟩:=fun o1 o2 o3 k=>((((Ext.rfl' wr).alloc o1).alloc o2).alloc o3).cell hl6
   go_wp2_with (
    go_at_call 145;refine(hrec _ rfl).mono ?_;rintro e w5 ⟨v,rfl,hS5,hE5⟩)
   go_ret
   exact⟨v,rfl,by rw[←hB];exact hS5,hE5⟩
  ·have hjlt:j<T.length:=by omega
   have hjv:j<vs.length:=by omega
   obtain⟨l,hl⟩:∃l,T[j]? =some l:=⟨_,List.getElem?_eq_getElem hjlt⟩
   obtain⟨u,hu,hou⟩:=hve.get j l hl
   obtain⟨hasc,hmem,hll⟩:=hT1 l (List.mem_of_getElem? hl)
   obtain⟨gr,cr,her,hgrB,hgrl⟩:=hvs.form (by omega)
   obtain⟨rfl,rfl⟩:ao=some ⟨gr,0,none⟩∧cp=cr:=by simpa using her
   have hcu:=hvs.cells (g:=gr) rfl j u hu
   rw[Z0c] at hcu
   obtain⟨gl,cl,rfl,hglB,hgll⟩:=hou.form (by omega)
   obtain⟨p,hp⟩:∃p,l[0]? =some p:=⟨_,List.getElem?_eq_getElem (by omega)⟩
   have hpn:=hmem p (List.mem_of_getElem? hp)
   obtain⟨i,rfl⟩:=Int.eq_ofNat_of_zero_le hpn.1
   have hcl:=hou.cells (g:=gl) rfl 0 (.int .i64 i) (by rw[List.getElem?_map,hp];rfl)
   rw[Z0c] at hcl
   have hin:i<n:=by omega
   obtain⟨es2,ck2,hes2⟩:∃es ck,w2.heap[w.heap.size+1+1]? =some (.map es ck):=⟨_,_,g2⟩
   have hgrk:gr≠w.heap.size+1+1:=by
    rintro rfl
    obtain⟨_,⟨h,_⟩|⟨_,_,_,h,_,hc,_⟩⟩:=hvs
    ·cases h
    ·cases h;rw[g2] at hc;cases hc
   have hglk:gl≠w.heap.size+1+1:=by
    rintro rfl
    obtain⟨_,⟨h,_⟩|⟨_,_,_,h,_,hc,_⟩⟩:=hou
    ·cases h
    ·cases h;rw[g2] at hc;cases hc
   have hsame:∀(q:Addr),q.block<w2.heap.size→q.block≠w.heap.size+1+1→wr.cell? q=w2.cell? q:=fun q h1 h2=>by simp only[World.cell?,hX.block _ h1 h2]
   replace hcu:=(hsame ⟨gr,j,none⟩ hgrl hgrk).trans hcu
   have hlc:wr.drew.cell? ⟨gl,0,none⟩=some (.int .i64 i):=(hsame ⟨gl,0,none⟩ hgll hglk).trans hcl
   have hyc:wr.drew.cell? ⟨w.heap.size+1+1+1,0,none⟩=some (.map (some (w.heap.size+1+1))):=(hsame ⟨w.heap.size+1+1+1,0,none⟩ (Z5 g3) (by simp)).trans (by rw[Z0 g3];rfl)
   obtain⟨G,hmap,hrows,hap,hnew⟩:=hBy
   have hrow:=hrows i hin
   obtain⟨ra,rc,hra⟩:=hrow.form
   obtain⟨hr0,rvs,hrvs,hre⟩:=hrow
   rw[hra] at hrvs hr0
   have hrl:=hre.length
   have hrvs2:wr.drew.ownsRow B 27 1 (.slice ra (byL (T.take j) i).length rc) rvs.length rvs:=Z00 hrvs ((Ext.rfl' wr).drew)
   have hrvs3:wr.drew.ownsRow B 27 1 (.slice ra (byL (T.take j) i).length rc) (byL (T.take j) i).length rvs:=by have h:=hrvs2;rw[hrl] at h;exact h
   have hlook:∀W,W=wr.drew∨W=wr.drew.alloc (.cells #[.slice (some ⟨gl,0,none⟩) l.length cl] 27)→(Instr.lookup 182 (.map (some (w.heap.size+1+1))) (.int .i64 i) false).run prog W= .ok (.slice ra (byL (T.take j) i).length rc) W:=by
    intro W hW
    obtain⟨kl,hkl⟩:=Z3M i (by omega)
    have hmW:MapAt prog 3 W (w.heap.size+1+1) G:=by
     rcases hW with rfl|rfl
     ·exact hmap.keep rfl
     ·exact hmap.keep (((Ext.rfl' wr).drew.alloc _).old _ hmap.lt)
    have:=hmW.lookup K3 u182 (Zap W) hkl false
    rw[if_neg (by decide)] at this
    rw[this]
    exact congrArg (fun v=>Result.ok v W) hra
   have hBsz:B≤(wr.drew.alloc (.cells #[.slice (some ⟨gl,0,none⟩) l.length cl] 27)).heap.size:=by simp only[Z2];have:=hX.size;have:wr.drew.heap.size=wr.heap.size:=rfl;omega
   have hrlen:(byL (T.take j) i).length≤100000:=Nat.le_trans (List.length_filter_le _ _) (by rw[List.length_take];omega)
   obtain⟨A,hA⟩:∃A:Value→World→Prop,A=fun v w3=>w3.ownsRow B 27 1 v (rvs.length+1) (rvs++[.slice (some ⟨gl,0,none⟩) l.length cl])∧(wr.drew.alloc (.cells #[.slice (some ⟨gl,0,none⟩) l.length cl] 27)).grownBy w3 (Value.ownBlock (.slice ra (byL (T.take j) i).length rc))∧((v.ownBlock=Value.ownBlock (.slice ra (byL (T.take j) i).length rc))∨∀k,v.ownBlock=some k→(wr.drew.alloc (.cells #[.slice (some ⟨gl,0,none⟩) l.length cl] 27)).heap.size≤k):=⟨_,rfl⟩
   have hA1:∀v w3,A v w3→w3.ownsRow B 27 1 v (rvs.length+1) (rvs++[.slice (some ⟨gl,0,none⟩) l.length cl])∧(wr.drew.alloc (.cells #[.slice (some ⟨gl,0,none⟩) l.length cl] 27)).grownBy w3 (Value.ownBlock (.slice ra (byL (T.take j) i).length rc))∧((v.ownBlock=Value.ownBlock (.slice ra (byL (T.take j) i).length rc))∨∀k,v.ownBlock=some k→(wr.drew.alloc (.cells #[.slice (some ⟨gl,0,none⟩) l.length cl] 27)).heap.size≤k):=fun v w3 h=>by rw[hA] at h;exact h
   have hA2:∀v w3,w3.ownsRow B 27 1 v (rvs.length+1) (rvs++[.slice (some ⟨gl,0,none⟩) l.length cl])∧(wr.drew.alloc (.cells #[.slice (some ⟨gl,0,none⟩) l.length cl] 27)).grownBy w3 (Value.ownBlock (.slice ra (byL (T.take j) i).length rc))∧((v.ownBlock=Value.ownBlock (.slice ra (byL (T.take j) i).length rc))∨∀k,v.ownBlock=some k→(wr.drew.alloc (.cells #[.slice (some ⟨gl,0,none⟩) l.length cl] 27)).heap.size≤k)→A v w3:=fun v w3 h=>by rw[hA];exact h
   clear hA
   have hAold:∀v w3,A v w3→∀k,k<w2.heap.size→w3.heap[k]? =wr.heap[k]? :=by
    intro v w3 h k hk
    obtain⟨_,hg,_⟩:=hA1 v w3 h
    rw[hg.block k (by simp only[Z2];have:=hX.size;have:wr.drew.heap.size=wr.heap.size:=rfl;omega) (fun e=>by have:=hnew i hin k (by rw[hra];exact e.symm);omega)]
    rw[Z3,if_neg (by have:=hX.size;have:wr.drew.heap.size=wr.heap.size:=rfl;omega)]
    rfl
   have hstep:∀v w3,A v w3→∃o,(Instr.mapUpdate 182 (.map (some (w.heap.size+1+1))) (.int .i64 i) v).run prog w3= .ok () (setBlock w3 (w.heap.size+1+1) o)∧ByAt B w2.heap.size n (w.heap.size+1+1) (T.take (j+1)) (setBlock w3 (w.heap.size+1+1) o):=by
    intro v w3 h
    obtain⟨h1,h2,h3⟩:=hA1 v w3 h
    rw[Z0G hl]
    have hEa:Ext wr (wr.drew.alloc (.cells #[.slice (some ⟨gl,0,none⟩) l.length cl] 27)):=(Ext.rfl' wr).drew.alloc _
    exact ByAt.step (W:=wr.drew.alloc (.cells #[.slice (some ⟨gl,0,none⟩) l.length cl] 27)) (G:=G) (hmap.keep (hEa.old _ hmap.lt)) (fun q hq=>(hrows q hq).ext hEa) hap hnew (Nat.le_trans hX.size hEa.size) hin (by omega) (by rw[List.head?_eq_getElem?];exact hp)
     (Z00 (Z2R hou hX g2) hEa) (by rw[hra];exact Z00 hrvs hEa) (hre.mono fun u s h=>Z00 h hEa) h1 (by rw[hra];exact h2) (by rw[hra];exact h3)
   have hl0:¬((l.length:Int)≤0):=by omega
   have hlne:¬l=[]:=by rintro rfl;simp at hl0
   clear hll
   clear hsame
   go_wp2_with fail
   refine Zia (T:=Value×World×Obj) (fun z=>[(19,.map (some (w.heap.size+1+1))),(20,.slice (some ⟨gl,0,none⟩) l.length cl),(21,.pointer (some ⟨gl,0,none⟩)),(22,.int .i64 i),(23,.map (some (w.heap.size+1+1))),(24,.slice (some ⟨gl,0,none⟩) l.length cl),(25,.pointer (some ⟨gl,0,none⟩)),(26,.int .i64 i),(27,.slice ra (byL (T.take j) i).length rc),(28,.slice (some ⟨gl,0,none⟩) l.length cl),(29,.slice (some ⟨wr.drew.heap.size,0,none⟩) 1 1),(30,z.1)]) (fun z W=>A z.1 z.2.1∧W=setBlock z.2.1 (w.heap.size+1+1) z.2.2∧ByAt B w2.heap.size n (w.heap.size+1+1) (T.take (j+1)) (setBlock z.2.1 (w.heap.size+1+1) z.2.2)) ?_ ?_
   ·refine Zhk (ExtX fun q=>wr.heap.size≤q∨Value.ownBlock (.slice ra (byL (T.take j) i).length rc)=some q∨q=w.heap.size+1+1) (by kernel_rfl) ?_
    have hyd:=((Ext.rfl' wr).drew).cellS hyc;have hld:=((Ext.rfl' wr).drew).cellS hlc
    have hrn:∀k,Value.ownBlock (.slice ra (byL (T.take j) i).length rc)=some k→w2.heap.size≤k:=fun k hk=>hnew i hin k (by rw[hra];exact hk)
    have hy3:=Z5 g3
    have hyN:¬(wr.heap.size≤w.heap.size+1+1+1∨Value.ownBlock (.slice ra (byL (T.take j) i).length rc)=some (w.heap.size+1+1+1)∨w.heap.size+1+1+1=w.heap.size+1+1):=by
     rintro(h|h|h)
     ·have:=hX.size;omega
     ·have:=hrn _ h;omega
     ·omega
    have hlN:¬(wr.heap.size≤gl∨Value.ownBlock (.slice ra (byL (T.take j) i).length rc)=some gl∨gl=w.heap.size+1+1):=by
     rintro(h|h|h)
     ·have:=hX.size;omega
     ·have:=hrn _ h;omega
     ·exact hglk h
    have gy:=GrE.cell (X:=fun q=>wr.heap.size≤q∨Value.ownBlock (.slice ra (byL (T.take j) i).length rc)=some q∨q=w.heap.size+1+1) hyN hyd
    have gz:=GrE.cell (X:=fun q=>wr.heap.size≤q∨Value.ownBlock (.slice ra (byL (T.take j) i).length rc)=some q∨q=w.heap.size+1+1) hlN hld
    clear hyN hlN hrn
    refine Zh8 (ExtX.pre _) [0,1,2,3,4,5,6,7,9] (by kernel_rfl) (by kernel_rfl) ?_
    simp only[ZeD,List.getElem?_cons_succ,List.getElem?_cons_zero,List.cons_append,List.nil_append]
    repeat (go_big_quiet_step (fail))
    refine wpQuiet_nil ?_
    clear gy gz
    refine Zir 8 10 rfl rfl (by kernel_rfl) rfl rfl ?_ ?_
    ·refine Zf3 ⟨.slice ra (byL (T.take j) i).length rc,wr.drew,by have hlk:=hlook (wr.drew) (.inl rfl);simp[go_sem,execOp,Act.eval,hlk],Go.Nk.Ext.toX (Ext.rfl' _) _,?_⟩
     go_simp
     refine Zh4 10 rfl (by kernel_rfl) rfl ?_
     refine Zf3 ⟨.slice (some ⟨wr.drew.heap.size,0,none⟩) 1 1,wr.drew.alloc (.cells #[.slice (some ⟨gl,0,none⟩) l.length cl] 27),by simp[go_sem,execOp,Act.eval],Go.Nk.Ext.toX ((Ext.rfl' _).alloc _) _,?_⟩
     go_simp
     refine Zh4 11 rfl (by kernel_rfl) rfl ?_
     refine Z3V _ _ 57 rfl B 27 Tryz.t27 (.slice none 0 0) 1 24 u57 i27 t27z t27s t27b rfl (by omega) (.slice ra (byL (T.take j) i).length rc) (byL (T.take j) i).length rvs rfl (hrvs3.alloc _) ⟨wr.drew.heap.size,0,none⟩ 1 1 [.slice (some ⟨gl,0,none⟩) l.length cl] rfl rfl (Z1N _ _ _) (by intro u hu;rw[List.mem_singleton.1 hu];rfl) (by simp[maxLen];omega) (by omega) hBsz (fun v' w3 hown3 hgr3 hwh3=>⟨Zhv hgr3 (fun k hk=> .inr (.inl hk)),?_⟩)
     have hA3:=hA2 v' w3 ⟨by rw[hrl];exact hown3,hgr3,hwh3⟩
     obtain⟨o,hup,hby⟩:=hstep v' w3 hA3
     go_simp
     refine Zh4 12 rfl (by kernel_rfl) rfl (Zie ⟨setBlock w3 (w.heap.size+1+1) o,by simp[go_sem,execOp,Act.eval,hup],Zif w3 (.inr (.inr rfl)) o,?_⟩)
     go_simp
     refine ZhF (by kernel_rfl) ?_
     exact⟨rfl,v',(by simp only[Zip,Act.put];go_simp),w3,hA3,o,rfl,(by rw[hB] at hby;exact hby)⟩
    ·refine Zf3 ⟨.slice (some ⟨wr.drew.heap.size,0,none⟩) 1 1,wr.drew.alloc (.cells #[.slice (some ⟨gl,0,none⟩) l.length cl] 27),by simp[go_sem,execOp,Act.eval],Go.Nk.Ext.toX ((Ext.rfl' _).alloc _) _,?_⟩
     go_simp
     refine Zh4 8 rfl (by kernel_rfl) rfl ?_
     refine Zf3 ⟨.slice ra (byL (T.take j) i).length rc,wr.drew.alloc (.cells #[.slice (some ⟨gl,0,none⟩) l.length cl] 27),by have hlk:=hlook (wr.drew.alloc (.cells #[.slice (some ⟨gl,0,none⟩) l.length cl] 27)) (.inr rfl);simp only[World.alloc_drew] at hlk;simp[go_sem,execOp,Act.eval,hlk],Go.Nk.Ext.toX (Ext.rfl' _) _,?_⟩
     go_simp
     refine Zh4 11 rfl (by kernel_rfl) rfl ?_
     refine Z3V _ _ 57 rfl B 27 Tryz.t27 (.slice none 0 0) 1 24 u57 i27 t27z t27s t27b rfl (by omega) (.slice ra (byL (T.take j) i).length rc) (byL (T.take j) i).length rvs rfl (hrvs3.alloc _) ⟨wr.drew.heap.size,0,none⟩ 1 1 [.slice (some ⟨gl,0,none⟩) l.length cl] rfl rfl (Z1N _ _ _) (by intro u hu;rw[List.mem_singleton.1 hu];rfl) (by simp[maxLen];omega) (by omega) hBsz (fun v' w3 hown3 hgr3 hwh3=>⟨Zhv hgr3 (fun k hk=> .inr (.inl hk)),?_⟩)
     have hA3:=hA2 v' w3 ⟨by rw[hrl];exact hown3,hgr3,hwh3⟩
     obtain⟨o,hup,hby⟩:=hstep v' w3 hA3
     go_simp
     refine Zh4 12 rfl (by kernel_rfl) rfl (Zie ⟨setBlock w3 (w.heap.size+1+1) o,by simp[go_sem,execOp,Act.eval,hup],Zif w3 (.inr (.inr rfl)) o,?_⟩)
     go_simp
     refine ZhF (by kernel_rfl) ?_
     exact⟨rfl,v',(by simp only[Zip,Act.put];go_simp),w3,hA3,o,rfl,(by rw[hB] at hby;exact hby)⟩
   ·rintro⟨v9,w9,o9⟩ W ⟨hA9,hW9,hby9⟩
    simp only at hA9 hW9 hby9
    simp only[Zip,Act.put]
    replace hW9:Hid (W=setBlock w9 (w.heap.size+1+1) o9):=hW9
    go_simp
    replace hW9:=hW9.out
    have hmap9:Map1 (w.heap.size+1+1) w2 W:=by
     obtain⟨_,k1,_⟩:=hA1 _ _ hA9
     rw[hW9]
     have hs9:=k1.size
     simp only[Z2] at hs9
     have hdr:wr.drew.heap.size=wr.heap.size:=rfl
     exact⟨k1.os.trans hX.os,k1.tape.trans hX.tape,k1.output.trans hX.output,by rw[Z2s];have:=hX.size;omega,fun k hk hne=>(Z0O hne _).trans ((hAold _ _ hA9 k hk).trans (hX.block k hk hne))⟩
    rw[←hW9] at hby9
    clear hW9
    go_wp2
    exact⟨⟨j+1,by omega,by push_cast;rfl,hmap9,hby9⟩,by simp[intOf];omega⟩
end Go.Proofs.Tryq
namespace Go.Proofs.Tryq
set_option maxRecDepth 100000
set_option maxHeartbeats 4000000
open Go Go.Nk Go.RowKit
theorem Z7I{w:World}{b:Nat}{x:Int}(h:w.heap[b]? =some (.cells #[.int .i64 x] 3)):RawI w (some ⟨b,0,none⟩) [x]:=by
 intro i y hy
 match i,hy with
 |0,hy=>
  obtain rfl:=Option.some.inj hy
  exact⟨b,0,rfl,Z5 h,by rw[Z0 h];rfl⟩
def Z1Y(a b c m:Int)(L:List Sf)(k:Int):Int:=if Zo a b c m L [k]=0 then(Zk (Zt a b c L L.length (fun j=>j==k.toNat) m.toNat [] 0) L.length 0 (fun j=>j==k.toNat)).length else 0
theorem Z6S(a b c m:Int)(base:Option Addr)(n cap:Nat)(L:List Sf)(k:Int)(w:World)(hlen:L.length=n)(hn:n≤20)(hM:Meas w)(hS:RawA w base L):
 Calls prog 59 #[.agg #[.int .i64 a,.int .i64 b,.int .i64 c,.int .i64 m,.slice base n cap],.int .i64 k] w fun e w'=>e= .returned (.tuple #[.int .i64 (Z1Y a b c m L k),.int .i64 (Zo a b c m L [k])])∧Ext w w':=by
 have ho:=fun W hW ad hl=>Z3c a b c m base n cap L ad 1 1 [k] W hlen hn rfl (by omega) (hM.ext hW) (hS.ext hW) hl
 by_cases h:Zo a b c m L [k]=0
 ·obtain⟨hG,hin,hn9,hm⟩:=Z1n h
  have hk:=hin k (by simp)
  obtain⟨q,rfl⟩:=Int.eq_ofNat_of_zero_le hk.1
  have hq:q<9:=by omega
  have hq0:(0:Int)≤(q:Int):=by omega
  have hq9:(q:Int)<9:=by omega
  have hF:Z1Y a b c m L q=(Zk (Zt a b c L n (fun j=>j==q) m.toNat [] 0) n 0 (fun j=>j==q)).length:=by rw[Z1Y,if_pos h,hlen,Int.toNat_natCast]
  have hsh:=fun W hW=>Z65 a b c m base n cap L (fun j=>j==q) W hG hlen (by omega) hm (hM.ext hW) (hS.ext hW)
  rw[h] at ho⊢
  rw[hF]
  generalize Zk (Zt a b c L n (fun j=>j==q) m.toNat [] 0) n 0 (fun j=>j==q)=Bs at hsh⊢
  simp only[Zs] at hsh
  clear hF h hk hin
  have hqs:q=3∨q=0∨q=1∨q=2∨q=4∨q=5∨q=6∨q=7∨q=8:=by omega
  clear hq hq0 hq9
  rcases hqs with rfl|rfl|rfl|rfl|rfl|rfl|rfl|rfl|rfl
  all_goals
   go_enter func59,ntmps59
   go_wp2_with (first
    |(go_at_call 86;refine(ho _ (by(repeat (with_reducible first|assumption|exact Ext.rfl' _|apply Ext.alloc|apply Ext.drew))) _ (Z7I (by simp only[Z3,Z2];exact if_pos trivial))).mono ?_;rintro e w2 ⟨rfl,hE2⟩
      have hE3:Ext w w2:=Ext.trans (by(repeat (with_reducible first|assumption|exact Ext.rfl' _|apply Ext.alloc|apply Ext.drew))) hE2)
    |(go_at_call 100;refine(hsh _ (by(repeat (with_reducible first|assumption|exact Ext.rfl' _|apply Ext.alloc|apply Ext.drew|exact Ext.setCell (by(repeat (with_reducible first|assumption|exact Ext.rfl' _|apply Ext.alloc|apply Ext.drew))) _ _ (by simp only[Z2];have:=hE3.size;omega))))).mono ?_;rintro e w3 ⟨v,rfl,hSv,hE4⟩
      obtain⟨ao,cp,rfl⟩:=hSv.form))
   go_ret2
   exact⟨rfl,((hE3.alloc _).alloc _).trans hE4⟩
 ·have hF:Z1Y a b c m L k=0:=by rw[Z1Y,if_neg h]
  have hne:(Zo a b c m L [k] !=0)=true:=by simpa using h
  rw[hF]
  generalize Zo a b c m L [k]=f at ho hne⊢
  go_enter func59,ntmps59
  go_wp2_with (
   go_at_call 86;refine(ho _ (by(repeat (with_reducible first|assumption|exact Ext.rfl' _|apply Ext.alloc|apply Ext.drew))) _ (Z7I (by simp only[Z3,Z2];exact if_pos trivial))).mono ?_;rintro e w2 ⟨rfl,hE2⟩
   have hE3:Ext w w2:=Ext.trans (by(repeat (with_reducible first|assumption|exact Ext.rfl' _|apply Ext.alloc|apply Ext.drew))) hE2)
  go_ret2
  exact⟨rfl,hE3.alloc _⟩
end Go.Proofs.Tryq
namespace Go.Proofs.Tryq
open Go Go.Nk Go.RowKit
def Z66(a b c m:Int)(L:List Sf):List (List Int):=if Zo a b c m L []=0 then Zk (Zt a b c L L.length (fun _=>false) m.toNat [] 0) L.length 0 (fun _=>false) else[]
def inL(S:List (List Int))(i:Nat):Bool:=S.any fun l=>l.contains (i:Int)
def Z32(n:Nat)(S:List (List Int)):List Int:=((List.range n).filter fun i=> !inL S i).map fun(i:Nat)=>(i:Int)
def Z6T(a b c m:Int)(L:List Sf):List Int:=if Zo a b c m L []=0 then Z32 L.length (Z66 a b c m L) else[]
theorem ZbX(S:List (List Int))(l:List Int)(i:Nat):inL (S++[l]) i=(inL S i||l.contains (i:Int)):=by simp[inL,List.any_append]
theorem Z8C(S:List (List Int))(i:Nat):Z32 (i+1) S=if inL S i=true then Z32 i S else Z32 i S++[(i:Int)]:=by
 rw[Z32,List.range_succ,List.filter_append,List.map_append]
 cases h:inL S i<;>simp[Z32,h]
theorem Zaq(n:Nat)(S:List (List Int)):(Z32 n S).length≤n:=by
 have:=List.length_filter_le (fun i=> !inL S i) (List.range n)
 simpa[Z32] using this
theorem Z3O{T:List (List Int)}:∀(d i:Nat)(u:Nat→Bool),∀l∈Zk T d i u,l∈T
 |0,_,_,l,h=>by cases h
 |d+1,i,u,l,h=>by
  have hb:∀(P:List Int→Prop)(a b:List (List Int)),(∀l∈a,P l)→(∀l∈b,P l)→∀l∈Z0q a b,P l:=fun P a b h h'=>by unfold Z0q;split<;>assumption
  have hf:∀(B mo:List (List Int)),(∀l∈B,l∈T)→(∀l∈mo,l∈T)→∀l∈B.foldl (ZL u (Zk T d (i+1))) mo,l∈T:=by
   intro B
   induction B with
   |nil=>exact fun mo _ h=>h
   |cons x B ih=>
    intro mo hB hm
    rw[List.foldl_cons]
    refine ih _ (fun l hl=>hB l (List.mem_cons_of_mem _ hl)) ?_
    unfold ZL
    split
    ·exact hm
    ·refine hb _ _ _ hm fun l hl=> ?_
     rcases List.mem_cons.1 hl with rfl|hl
     ·exact hB _ List.mem_cons_self
     ·exact Z3O d (i+1) _ l hl
  rw[Zk] at h
  exact hb _ _ _ (hf _ _ (fun l hl=>(List.mem_filter.1 hl).1) (fun l hl=>by cases hl)) (fun l hl=>Z3O d (i+1) u l hl) l h
theorem Zdw{B:Nat}{w:World}{v:Value}{ls:List (List Int)}(h:Shr B w v ls){j:Nat}{l:List Int}(hl:ls[j]? =some l)(h0:l≠[]):
 ∃gr cr gl cl,v= .slice (some ⟨gr,0,none⟩) ls.length cr∧B≤gr∧gr<w.heap.size∧w.cell? ⟨gr,j,none⟩=some (.slice (some ⟨gl,0,none⟩) l.length cl)∧OwnI B w (.slice (some ⟨gl,0,none⟩) l.length cl) l∧B≤gl∧gl<w.heap.size∧l.length≤cl:=by
 obtain⟨_,vs,h1,h2⟩:=h
 have hlen:=h2.length
 have hj:j<ls.length:=(List.getElem?_eq_some_iff.1 hl).1
 obtain⟨gr,cr,rfl,hb,hg⟩:=h1.form (by omega)
 obtain⟨u,hu,hou⟩:=h2.get j l hl
 have hc:=h1.cells (g:=gr) rfl j u hu
 rw[Z0c] at hc
 have hlp:0<l.length:=List.length_pos_iff.2 h0
 obtain⟨_,⟨h,_⟩|⟨gl,cl,cur,rfl,hb2,hg2,hcap,_⟩⟩:=hou
 ·subst h
  rename_i hx hz
  simp at hz
  exact absurd hz h0
 ·rename_i hx hq
  exact⟨gr,cr,gl,cl,by rw[hlen],hb,hg,hc,⟨hx,.inr ⟨gl,cl,cur,rfl,hb2,hg2,hcap,hq⟩⟩,hb2,Z5 hg2,hcap⟩
end Go.Proofs.Tryq
namespace Go.Proofs.Tryq
set_option maxRecDepth 100000
set_option maxHeartbeats 4000000
open Go Go.Nk Go.RowKit
theorem Shr.belowX{B ib:Nat}{w w':World}{v:Value}{ls:List (List Int)}(h:Shr B w v ls)(hX:BelowX w.heap.size ib w w')(hib:ib<B):Shr B w' v ls:=by
 have key:∀{e:TypeId}{v:Value}{n:Nat}{xs:List Value},w.ownsRow B e 1 v n xs→w'.ownsRow B e 1 v n xs:=fun h=>Z3d h fun k hv=>hX.block k (h.lt k hv).2 (by have:=(h.lt k hv).1;omega)
 obtain⟨h0,vs,h1,h2⟩:=h
 exact⟨h0,vs,key h1,h2.mono fun u s h=>key h⟩
theorem Shr.le{B B':Nat}{w:World}{v:Value}{ls:List (List Int)}(h:Shr B w v ls)(hB:B'≤B):Shr B' w v ls:=by
 obtain⟨h0,vs,h1,h2⟩:=h
 exact⟨h0,vs,Z05 h1 hB,h2.mono fun u s h=>OwnI.le h hB⟩
theorem BelowX.of_ext{B ib:Nat}{a b c:World}(h:BelowX B ib a b)(hE:Ext b c)(hB:B≤b.heap.size):BelowX B ib a c:=
 h.trans (Z15 hE hB)
theorem ZbY(a b c m:Int)(base:Option Addr)(n cap:Nat)(L:List Sf)(w:World)(hlen:L.length=n)(hn:n≤20)(hM:Meas w)(hS:RawA w base L):
 Calls prog 37 #[.agg #[.int .i64 a,.int .i64 b,.int .i64 c,.int .i64 m,.slice base n cap]] w fun e w'=>∃v1 v2,e= .returned (.tuple #[v1,v2,.int .i64 (Zo a b c m L [])])∧Shr w.heap.size w' v1 (Z66 a b c m L)∧OwnI w.heap.size w' v2 (Z6T a b c m L)∧Ext w w':=by
 have ho:=fun W hW=>Z3c a b c m base n cap L none 0 0 [] W hlen hn rfl (by omega) (hM.ext hW) (hS.ext hW) (fun i x hx=>by simp at hx)
 by_cases h:Zo a b c m L []=0
 ·obtain⟨hG,_,hn9,hm⟩:=Z1n h
  have hF1:Z66 a b c m L=Zk (Zt a b c L n (fun _=>false) m.toNat [] 0) n 0 (fun _=>false):=by rw[Z66,if_pos h,hlen]
  have hF2:Z6T a b c m L=Z32 n (Z66 a b c m L):=by rw[Z6T,if_pos h,hlen]
  have hsh:=fun W hW=>Z65 a b c m base n cap L (fun _=>false) W hG hlen (by omega) hm (hM.ext hW) (hS.ext hW)
  have hmem:∀l∈Zk (Zt a b c L n (fun _=>false) m.toNat [] 0) n 0 (fun _=>false),(∀p∈l,0≤p∧p<(n:Int))∧l.length=m.toNat:=fun l hl=>by
   have:=Z2A a b c L n (fun _=>false) m.toNat [] 0 l (Z3O _ _ _ l hl) (by simp) List.Pairwise.nil
   exact⟨this.2.1,by simpa using this.2.2⟩
  have hSl:=Z2C (Zt a b c L n (fun _=>false) m.toNat [] 0) n 0 (fun _=>false)
  rw[hF2,hF1]
  rw[h] at ho⊢
  generalize Zk (Zt a b c L n (fun _=>false) m.toNat [] 0) n 0 (fun _=>false)=S at hsh hmem hSl⊢
  simp only[Zs] at hsh
  clear hF1 hF2 h
  go_enter func37,ntmps37
  go_wp2_with (first
   |(go_at_call 86;refine(ho _ (by(repeat (with_reducible first|assumption|exact Ext.rfl' _|apply Ext.alloc|apply Ext.drew)))).mono ?_;rintro e w2 ⟨rfl,hE2⟩
     have hE3:Ext w w2:=Ext.trans (by(repeat (with_reducible first|assumption|exact Ext.rfl' _|apply Ext.alloc|apply Ext.drew))) hE2
     have hst2:w2.heap[w.heap.size]? =some (.cells #[.int .i64 a,.int .i64 b,.int .i64 c,.int .i64 m,.slice base n cap] 26):=hE2.get (by simp only[Z3,Z2];exact if_pos trivial))
   |(go_at_call 100;refine(hsh _ (by(repeat (with_reducible first|assumption|exact Ext.rfl' _|apply Ext.alloc|apply Ext.drew)))).mono ?_;rintro e w3 ⟨v,rfl,hSv,hE4⟩
     obtain⟨ao,cp,rfl⟩:=hSv.form
     have hE5:Ext w w3:=Ext.trans (by(repeat (with_reducible first|assumption|exact Ext.rfl' _|apply Ext.alloc|apply Ext.drew))) hE4
     have hst:=((Ext.rfl' w2).alloc _).alloc _ |>.trans hE4 |>.get hst2
     have hib:w3.heap[w2.heap.size+1]? =some (.cells (Zs (inL (S.take 0))) 138):=hE4.get (by simp only[Z3,Z2];exact if_pos trivial)
     simp only[Z2] at hSv))
  have hibl:=Z5 hib
  clear ho hsh hE2 hE4
  have hst0:=Z0 hst 4
  simp only[List.getElem?_toArray,List.getElem?_cons_zero,List.getElem?_cons_succ] at hst0
  go_loopw [2,24] (fun v2 v24 wr=>∃j,j≤S.length∧v24= .int .i64 j∧BelowX w3.heap.size (w2.heap.size+1) w3 wr∧wr.heap[w2.heap.size+1]? =some (.cells (Zs (inL (S.take j))) 138)∧Shr w3.heap.size wr v2 (S.take j)) (fun _ v24 _=>S.length - (intOf v24).toNat)
  case atStart=>exact⟨0,Nat.zero_le _,rfl,BelowX.refl _ _ _,hib,Shr.nil _ _⟩
  case round=>
   obtain⟨j,hj,rfl,hX,hi,hSm⟩:=hrel
   clear hib
   by_cases hjl:j=S.length
   ·subst hjl
    rw[List.take_length] at hi hSm
    have hs4:wr.cell? ⟨w.heap.size,4,none⟩=some (.slice base n cap):=by
     rw[←hst0];simp only[World.cell?,hX.block w.heap.size (Z5 hst) (by have:=hE3.size;omega)]
    have hbw:=hX.size
    go_wp2
    obtain⟨wo,rfl⟩:∃wo:World,wo=wr:=⟨_,rfl⟩
    go_loopw [3,46] (fun v3 v46 wz=>∃i:Nat,i≤n∧v46= .int .i64 i∧Ext wo wz∧OwnI wo.heap.size wz v3 (Z32 i S)) (fun _ v46 _=>n - (intOf v46).toNat)
    case atStart=>exact⟨0,Nat.zero_le _,rfl,Ext.rfl' _,World.ownsRow_nil _ _ _ _⟩
    case round=>
     obtain⟨i,hin,rfl,hEz,hown⟩:=hrel
     by_cases hi2:i=n
     ·subst hi2
      go_wp2
      refine bodyPost_ret (results_tmp3 rfl _ _ _) rfl ?_
      refine⟨_,_,rfl,(hSm.ext hEz).le (by have:=hE5.size;omega),hown.le (by have:=hE5.size;omega),?_⟩
      exact(BelowX.ext hX hE5 (by have:=hE3.size;omega) hE5.size).trans hEz
     ·have hlt:i<n:=by omega
      have hci:=Z0 (hEz.get hi) i
      rw[Z1u _ i (by omega)] at hci
      have hi0:(0:Int)≤(i:Int):=by omega
      have hi9:(i:Int)<9:=by omega
      have hiL:(i:Int)<(n:Int):=by omega
      have hlen2:=Zaq i S
      have hsz2:=hEz.size
      have hnx:=Z8C S i
      cases hb:inL S i with
      |true=>
       rw[hb] at hci hnx
       rw[if_pos rfl] at hnx
       rw[←hnx] at hown
       clear hnx hlen2
       go_wp2
       exact⟨⟨i+1,by omega,by push_cast;rfl,hEz,hown⟩,by simp[intOf];omega⟩
      |false=>
       rw[hb] at hci hnx
       rw[if_neg (by decide)] at hnx
       have hnx2:Hid (Z32 (i+1) S=Z32 i S++[(i:Int)]):=hnx
       clear hnx
       go_wp2_with (
        at_builtin
        refine wpList_append_own _ rfl _ _ _ rfl wo.heap.size 3 Tryz.t3 (.int .i64 0) 1 8 Go.Proofs.Tryq.u27 i3 t3z t3s t3b rfl (by omega) _ _ _ rfl (hown.alloc _) ⟨wr.heap.size,0,none⟩ 1 1 [.int .i64 i] rfl rfl (Z1N _ _ _) (by intro u hu;simp at hu;subst hu;rfl) (by simp[maxLen];omega) (by omega) (by simp;omega) ?_
        intro v' w5 hown5 hgrow5 _
        have hE9:Ext wo w5:=(hEz.alloc _).grown hgrow5 (fun k hk=>(hown.lt k hk).1))
       exact⟨⟨i+1,by omega,by push_cast;rfl,hE9,by rw[hnx2.out];simpa[OwnI] using hown5⟩,by simp[intOf];omega⟩
   ·have hjlt:j<S.length:=by omega
    obtain⟨l,hl⟩:∃l,S[j]? =some l:=⟨_,List.getElem?_eq_getElem hjlt⟩
    obtain⟨hlm,hll⟩:=hmem l (List.mem_of_getElem? hl)
    have hl1:0<l.length:=by omega
    have hl9:l.length≤9:=by omega
    clear hll
    obtain⟨gr,cr,gl,cl,her,hgrB,hgrl,hcu,hou,hglB,hgll,hcap⟩:=Zdw hSv hl (by rintro rfl;simp at hl1)
    obtain⟨rfl,rfl⟩:ao=some ⟨gr,0,none⟩∧cp=cr:=by simpa using her
    replace hcu:wr.cell? ⟨gr,j,none⟩=some (.slice (some ⟨gl,0,none⟩) l.length cl):=by
     rw[←hcu];simp only[World.cell?,hX.block gr hgrl (by omega)]
    have hcl:∀W,Ext wr W→∀(j:Nat) u,(l.map (Value.int .i64))[j]? =some u→W.cell? ⟨gl,j,none⟩=some u:=by
     intro W hW j u hu
     have:=hou.cells (g:=gl) rfl j u hu
     rw[Z0c] at this
     refine hW.cellS ?_
     rw[←this]
     simp only[World.cell?,hX.block gl hgll (by omega)]
    have hclone:=fun W hW=>Z60 gl l.length cl l W rfl hl1 (by omega) hcap (by have:=hX.size;have:=(hW:Ext wr W).size;omega) (hcl W hW)
    obtain⟨a2,c2,rfl⟩:=hSm.form
    have hSm0:=hSm
    obtain⟨hn2,vs,hvs,hve⟩:=hSm
    have htl:(S.take j).length=j:=by rw[List.length_take];omega
    have hvl:=hve.length
    rw[hvl] at hvs
    rw[htl] at hvs hn2 hvl hSm0⊢
    have hj0:(0:Int)≤(j:Int):=by omega
    have hjL:(j:Int)<(S.length:Int):=by omega
    go_wp2_with (first
     |(go_at_call 101;refine(hclone _ (by(repeat (with_reducible first|assumption|exact Ext.rfl' _|apply Ext.alloc|apply Ext.drew)))).mono ?_;rintro e w4 ⟨g',cap',rfl,ho4,hE4⟩)
     |(at_builtin
       refine wpList_append_own _ rfl _ _ _ rfl w3.heap.size 27 Tryz.t27 (.slice none 0 0) 1 24 u57 i27 t27z t27s t27b rfl (by omega) (.slice a2 j c2) _ _ rfl ((Z00 hvs hE4).alloc _) ⟨w4.heap.size,0,none⟩ 1 1 [.slice (some ⟨g',0,none⟩) l.length cap'] rfl rfl (Z1N _ _ _) (by intro u hu;rw[List.mem_singleton.1 hu];rfl) (by simp[maxLen];omega) (by omega) (by simp only[Z2];have:=hE4.size;have:=hX.size;omega) ?_
       intro v' w5 hown5 hgrow5 _))
    have hg5:(w4.alloc (.cells #[.slice (some ⟨g',0,none⟩) l.length cap'] 27)).grownBy w5 (Value.ownBlock (.slice a2 j c2)):=hgrow5
    clear hgrow5
    have hS4:Shr w3.heap.size (w4.alloc (.cells #[.slice (some ⟨g',0,none⟩) l.length cap'] 27)) (.slice a2 j c2) (S.take j):=(hSm0.ext hE4).ext ((Ext.rfl' w4).alloc _)
    have hwr:=hX.size
    have hw4:=hE4.size
    have hX5:BelowX w3.heap.size (w2.heap.size+1) w3 w5:=by
     refine(hX.of_ext (hE4.alloc (.cells #[.slice (some ⟨g',0,none⟩) l.length cap'] 27)) hX.size).trans ⟨hg5.os,hg5.tape,hg5.output,hg5.size,fun k hk _=>hg5.block k (by simp only[Z2];omega) (fun e=>by have:=(hS4.lt e.symm).1;omega)⟩
    have hi5:w5.heap[w2.heap.size+1]? =some (.cells (Zs (inL (S.take j))) 138):=(hg5.block _ (by simp only[Z2];omega) (fun e=>by have:=(hS4.lt e.symm).1;omega)).trans (((hE4.alloc _).get hi))
    have hS5:Shr w3.heap.size w5 v' (S.take (j+1)):=by
     rw[Z0G hl]
     refine⟨fun h=>by simp at h,vs++[.slice (some ⟨g',0,none⟩) l.length cap'],by simpa[hvl] using hown5,Each.append (hve.mono fun u s h=>OwnI.grownRow (OwnI.ext (OwnI.ext h hE4) ((Ext.rfl' w4).alloc _)) hS4 hg5) ⟨OwnI.grownRow (OwnI.ext (OwnI.le ho4 hwr) ((Ext.rfl' w4).alloc _)) hS4 hg5,trivial⟩⟩
    clear hg5 hS4 hvs hve hvl hn2 hSm0 hown5 ho4 hcu hcl hclone
    obtain⟨wo,rfl⟩:∃wo:World,wo=wr:=⟨_,rfl⟩
    go_loopw [35] (fun v35 wz=>∃k:Nat,k≤l.length∧v35= .int .i64 k∧BelowX w5.heap.size (w2.heap.size+1) w5 wz∧wz.heap[w2.heap.size+1]? =some (.cells (Zs (fun i=>inL (S.take j) i||(l.take k).contains (i:Int))) 138)) (fun v35 _=>l.length - (intOf v35).toNat)
    case atStart=>exact⟨0,Nat.zero_le _,rfl,BelowX.refl _ _ _,by rw[hi5,Z1o];intro i _;simp⟩
    case round=>
     obtain⟨k,hk,rfl,hXz,hiz⟩:=hrel
     by_cases hkl:k=l.length
     ·subst hkl
      rw[List.take_length] at hiz
      have hiz2:wr.heap[w2.heap.size+1]? =some (.cells (Zs (inL (S.take (j+1)))) 138):=by
       rw[hiz,Z1o]
       intro i _
       rw[Z0G hl,ZbX]
      have hXf:BelowX w3.heap.size (w2.heap.size+1) w3 wr:=hX5.trans ⟨hXz.os,hXz.tape,hXz.output,by have:=hXz.size;have:=hX5.size;omega,fun k hk hne=>hXz.block k (by have:=hX5.size;omega) hne⟩
      have hSf:=hS5.belowX hXz hibl
      go_wp2
      exact⟨⟨j+1,by omega,by push_cast;rfl,hXf,hiz2,hSf⟩,by simp[intOf];omega⟩
     ·obtain⟨p,hp⟩:∃p,l[k]? =some p:=⟨_,List.getElem?_eq_getElem (by omega)⟩
      have hpn:=hlm p (List.mem_of_getElem? hp)
      obtain⟨q,rfl⟩:=Int.eq_ofNat_of_zero_le hpn.1
      have hq9:q<9:=by omega
      have hcp:=hou.cells (g:=gl) rfl k (.int .i64 q) (by rw[List.getElem?_map,hp];rfl)
      rw[Z0c] at hcp
      replace hcp:wr.cell? ⟨gl,k,none⟩=some (.int .i64 q):=by
       rw[←hcp];simp only[World.cell?,hXz.block gl (by have:=hX5.size;omega) (by omega),hX5.block gl hgll (by omega)]
      have hfq:=Z8 hiz q
      have hcq:=Z0 hiz q
      rw[Z1u _ q hq9] at hcq
      generalize (inL (S.take j) q||(l.take k).contains (q:Int))=bq at hcq
      have hk0:(0:Int)≤(k:Int):=by omega
      have hkL:(k:Int)<(l.length:Int):=by omega
      have hq0:(0:Int)≤(q:Int):=by omega
      have hq9':(q:Int)<9:=by omega
      go_wp2
      have hA:=Go.Conc.aside_setCell wr ⟨w2.heap.size+1,q,none⟩ (.bool true)
      refine⟨⟨k+1,by omega,by push_cast;rfl,hXz.trans ⟨hA.os,hA.tape,hA.output,by rw[hA.size];exact Nat.le_refl _,fun b _ hne=>hA.block b hne⟩,?_⟩,by simp[intOf];omega⟩
      rw[Zb hiz,Z52 _ q hq9,Z1o]
      intro i _
      have e9:(i==q)=decide ((i:Int)=(q:Int)):=by rw[Bool.eq_iff_iff];simp;omega
      rw[Z0G hp,e9]
      simp[Bool.or_assoc]
 ·have hF1:Z66 a b c m L=[]:=by rw[Z66,if_neg h]
  have hF2:Z6T a b c m L=[]:=by rw[Z6T,if_neg h]
  have hne:(Zo a b c m L [] !=0)=true:=by simpa using h
  rw[hF1,hF2]
  generalize Zo a b c m L []=f at ho hne⊢
  go_enter func37,ntmps37
  go_wp2_with (
   go_at_call 86;refine(ho _ (by(repeat (with_reducible first|assumption|exact Ext.rfl' _|apply Ext.alloc|apply Ext.drew)))).mono ?_;rintro e w2 ⟨rfl,hE2⟩
   have hE3:Ext w w2:=Ext.trans (by(repeat (with_reducible first|assumption|exact Ext.rfl' _|apply Ext.alloc|apply Ext.drew))) hE2)
  refine bodyPost_ret (results_tmp3 rfl _ _ _) rfl ?_
  exact⟨_,_,rfl,Shr.nil _ _,World.ownsRow_nil _ _ _ _,hE3.alloc _⟩
end Go.Proofs.Tryq
namespace Go.Proofs.Tryq
set_option maxRecDepth 100000
set_option maxHeartbeats 2000000
open Go Go.Nk Go.RowKit
theorem Z3P(a b:Int)(w:World):Calls prog 34 #[.int .i64 a,.int .i64 b] w fun e w'=>e= .returned (.agg #[.int .i64 a,.int .i64 b])∧Ext w w':=by
 go_enter func34,ntmps34
 go_wp2
 refine bodyPost_ret (v:= .agg #[.int .i64 a,.int .i64 b]) ((Z07 rfl _ _ _).trans ?_) rfl ⟨rfl,(Ext.rfl' w).alloc _⟩
 simp[go_sem]
theorem ZP{a b:Bool}(h:a=b):Ending.returned (.bool a)=Ending.returned (.bool b):=by rw[h]
theorem Z1Z{α:Type}{l:List α}{n:Nat}(h:l.length=n):l.drop n=[]:=by rw[←h,List.drop_length]
theorem Z54{α:Type}[DecidableEq α]{l k:List α}{i:Nat}{x y:α}(hx:l[i]? =some x)(hy:k[i]? =some y):decide (l.drop i=k.drop i)=(decide (x=y)&&decide (l.drop (i+1)=k.drop (i+1))):=by
 rw[Z0b hx,Z0b hy,Bool.eq_iff_iff]
 simp
theorem Z1d(a1:Option Addr)(n1 c1:Nat)(l:List Int)(a2:Option Addr)(n2 c2:Nat)(k:List Int)(w:World)(h1:l.length=n1)(h2:k.length=n2)(hb:n1≤1000000∧n2≤1000000)(hl:RawI w a1 l)(hk:RawI w a2 k):
 Calls prog 58 #[.slice a1 n1 c1,.slice a2 n2 c2] w fun e w'=>e= .returned (.bool (decide (l=k)))∧Ext w w':=by
 by_cases hn:n1=n2
 ·have H:Hid (decide (l=k)=decide (l.drop 0=k.drop 0)):=rfl
  subst hn
  obtain⟨n,hn⟩:∃n,n=n1:=⟨_,rfl⟩
  subst hn
  go_enter func58,ntmps58
  go_wp2
  go_loopw [5] (fun v wr=>∃i:Nat,i≤n∧v= .int .i64 i∧Ext w wr∧Hid (decide (l=k)=decide (l.drop i=k.drop i))) (fun v _=>n - (intOf v).toNat)
  case atStart=>exact⟨0,Nat.zero_le _,rfl,Ext.rfl' w,H⟩
  case round=>
   obtain⟨i,hi,rfl,hE,hH⟩:=hrel
   clear H
   by_cases hin:i=n
   ·subst hin
    have hz:decide (l=k)=true:=by rw[hH.out,Z1Z h1,Z1Z h2];rfl
    go_wp2
    go_ret
    exact⟨ZP (a:=true) hz.symm,hE⟩
   ·have hlt:i<n:=by omega
    obtain⟨x,hx⟩:∃x,l[i]? =some x:=⟨_,List.getElem?_eq_getElem (by omega)⟩
    obtain⟨y,hy⟩:∃y,k[i]? =some y:=⟨_,List.getElem?_eq_getElem (by omega)⟩
    obtain⟨ba,oa,rfl,hba,hxa⟩:=(hl.ext hE) i x hx
    obtain⟨bb,ob,rfl,hbb,hyb⟩:=(hk.ext hE) i y hy
    go_wp2_with fail
    have gz0:=Zet hxa
    have gz1:=Zet hyb
    refine ZeG 9 (by kernel_rfl) ?_
    refine ZeB [0,1,2,3,4,5,6,7,8] (by kernel_rfl) (by kernel_rfl) ?_
    simp only[ZeD,List.getElem?_cons_succ,List.getElem?_cons_zero,List.cons_append,List.nil_append]
    repeat (go_big_quiet_step (fail))
    refine wpQuiet_nil ?_
    refine Zf6 (by kernel_rfl) (fun W hW=> ?_)
    have hEW:=hW
    clear gz0 gz1
    have hEW2:=hE.trans hEW
    by_cases hxy:x=y
    ·have hb:(x !=y)=false:=by simpa using hxy
     have hH2:Hid (decide (l=k)=decide (l.drop (i+1)=k.drop (i+1))):=by show _=_;rw[hH.out,Z54 hx hy,decide_eq_true hxy,Bool.true_and]
     rw[hb]
     clear hb
     go_wp2
     go_roundw
     case rel=>exact⟨i+1,by omega,by push_cast;rfl,hEW2,hH2⟩
     case measure=>simp[intOf];omega
    ·have hb:(x !=y)=true:=by simpa using hxy
     have hH2:decide (l=k)=false:=by rw[hH.out,Z54 hx hy,decide_eq_false hxy,Bool.false_and]
     rw[hb]
     clear hb
     go_wp2
     go_ret
     exact⟨ZP (a:=false) hH2.symm,hEW2⟩
 ·have hz:decide (l=k)=false:=decide_eq_false fun h=>hn (by rw[←h1,←h2,h])
  have hnn:¬(n1:Int)=(n2:Int):=by omega
  go_enter func58,ntmps58
  go_wp2
  go_ret
  exact⟨ZP (a:=false) hz.symm,Ext.rfl' w⟩
def RawL(w:World)(base:Option Addr)(ls:List (List Int)):Prop:=∀(i:Nat)(l:List Int),ls[i]? =some l→∃b off ad cp,base=some ⟨b,off,none⟩∧b<w.heap.size∧w.cell? ⟨b,off+i,none⟩=some (.slice ad l.length cp)∧l.length≤1000000∧RawI w ad l
theorem RawL.ext{w w':World}{base:Option Addr}{ls:List (List Int)}(h:RawL w base ls)(e:Ext w w'):RawL w' base ls:=by
 intro i l hi
 obtain⟨b,off,ad,cp,h1,h2,h3,h4,h5⟩:=h i l hi
 exact⟨b,off,ad,cp,h1,e.lt h2,e.cellS h3,h4,h5.ext e⟩
theorem OwnI.rawI{b:Nat}{w:World}{v:Value}{l:List Int}(h:OwnI b w v l):∃ao cp,v= .slice ao l.length cp∧RawI w ao l∧l.length≤cp:=by
 by_cases h0:l=[]
 ·subst h0
  rcases h.2 with⟨rfl,_⟩|⟨g,cp,_,rfl,_⟩
  ·exact⟨none,0,rfl,fun i x hx=>by simp at hx,Nat.zero_le _⟩
  ·exact⟨_,cp,rfl,fun i x hx=>by simp at hx,Nat.zero_le _⟩
 ·rcases h.2 with⟨rfl,hz⟩|⟨g,cp,cur,rfl,hb,hg,hcap,hr⟩
  ·simp at hz;exact absurd hz h0
  ·exact⟨_,cp,rfl,OwnI.raw (b:=b) ⟨h.1,.inr ⟨g,cp,cur,rfl,hb,hg,hcap,hr⟩⟩,hcap⟩
theorem Shr.rawL{b:Nat}{w:World}{v:Value}{ls:List (List Int)}(h:Shr b w v ls)(hb:∀l∈ls,l.length≤1000000):∃ao cp,v= .slice ao ls.length cp∧RawL w ao ls:=by
 obtain⟨ao,cp,rfl⟩:=h.form
 refine⟨ao,cp,rfl,fun i l hl=> ?_⟩
 obtain⟨_,vs,h1,h2⟩:=h
 have hlen:=h2.length
 have hi:=(List.getElem?_eq_some_iff.1 hl).1
 obtain⟨g,cr,he,_,hg⟩:=h1.form (by omega)
 obtain⟨rfl,_⟩:ao=some ⟨g,0,none⟩∧_:=by simpa using he
 obtain⟨u,hu,hou⟩:=h2.get i l hl
 have hc:=h1.cells (g:=g) rfl i u hu
 rw[Z0c] at hc
 obtain⟨ad,cu,rfl,hr,_⟩:=hou.rawI
 exact⟨g,0,ad,cu,rfl,hg,by rw[Nat.zero_add];exact hc,hb l (List.mem_of_getElem? hl),hr⟩
theorem Z55(a1:Option Addr)(n1 c1:Nat)(l:List (List Int))(a2:Option Addr)(n2 c2:Nat)(k:List (List Int))(w:World)(h1:l.length=n1)(h2:k.length=n2)(hb:n1≤1000000∧n2≤1000000)(hl:RawL w a1 l)(hk:RawL w a2 k):
 Calls prog 56 #[.slice a1 n1 c1,.slice a2 n2 c2] w fun e w'=>e= .returned (.bool (decide (l=k)))∧Ext w w':=by
 by_cases hn:n1=n2
 ·have H:Hid (decide (l=k)=decide (l.drop 0=k.drop 0)):=rfl
  subst hn
  obtain⟨n,hn⟩:∃n,n=n1:=⟨_,rfl⟩
  subst hn
  go_enter func56,ntmps56
  go_wp2
  go_loopw [5] (fun v wr=>∃i:Nat,i≤n∧v= .int .i64 i∧Ext w wr∧Hid (decide (l=k)=decide (l.drop i=k.drop i))) (fun v _=>n - (intOf v).toNat)
  case atStart=>exact⟨0,Nat.zero_le _,rfl,Ext.rfl' w,H⟩
  case round=>
   obtain⟨i,hi,rfl,hE,hH⟩:=hrel
   clear H
   by_cases hin:i=n
   ·subst hin
    have hz:decide (l=k)=true:=by rw[hH.out,Z1Z h1,Z1Z h2];rfl
    go_wp2
    go_ret
    exact⟨ZP (a:=true) hz.symm,hE⟩
   ·have hlt:i<n:=by omega
    obtain⟨x,hx⟩:∃x,l[i]? =some x:=⟨_,List.getElem?_eq_getElem (by omega)⟩
    obtain⟨y,hy⟩:∃y,k[i]? =some y:=⟨_,List.getElem?_eq_getElem (by omega)⟩
    obtain⟨ba,oa,ax,cx,rfl,hba,hxa,hxn,hxr⟩:=(hl.ext hE) i x hx
    obtain⟨bb,ob,ay,cy,rfl,hbb,hyb,hyn,hyr⟩:=(hk.ext hE) i y hy
    go_wp2_with fail
    have gz0:=Zet hxa
    have gz1:=Zet hyb
    refine ZeG 10 (by kernel_rfl) ?_
    refine ZeB [0,1,2,3,4,5,6,7] (by kernel_rfl) (by kernel_rfl) ?_
    simp only[ZeD,List.getElem?_cons_succ,List.getElem?_cons_zero,List.cons_append,List.nil_append]
    repeat (go_big_quiet_step (fail))
    refine wpQuiet_nil ?_
    refine ZeX 8 (f:=58) (args:= #[.slice ax x.length cx,.slice ay y.length cy]) (v:= .bool (decide (x=y))) (by kernel_rfl) rfl (by kernel_rfl) rfl (fun W=>by simp[go_sem,execOp,Act.eval]) (fun W hW=>Z1d ax x.length cx x ay y.length cy y _ rfl rfl ⟨hxn,hyn⟩ (hxr.ext hW) (hyr.ext hW)) ?_
    go_simp
    refine ZeB [9] (by kernel_rfl) (by kernel_rfl) ?_
    simp only[ZeD,List.getElem?_cons_succ,List.getElem?_cons_zero,List.cons_append,List.nil_append]
    repeat (go_big_quiet_step (fail))
    refine wpQuiet_nil ?_
    refine Zf6 (by kernel_rfl) (fun W hW=> ?_)
    have hEW:=hW
    clear gz0 gz1
    have hEW2:=hE.trans hEW
    by_cases hxy:x=y
    ·have hb:(!decide (x=y))=false:=by simpa using hxy
     have hH2:Hid (decide (l=k)=decide (l.drop (i+1)=k.drop (i+1))):=by show _=_;rw[hH.out,Z54 hx hy,decide_eq_true hxy,Bool.true_and]
     rw[hb]
     clear hb
     go_wp2
     go_roundw
     case rel=>exact⟨i+1,by omega,by push_cast;rfl,hEW2,hH2⟩
     case measure=>simp[intOf];omega
    ·have hb:(!decide (x=y))=true:=by simpa using hxy
     have hH2:decide (l=k)=false:=by rw[hH.out,Z54 hx hy,decide_eq_false hxy,Bool.false_and]
     rw[hb]
     clear hb
     go_wp2
     go_ret
     exact⟨ZP (a:=false) hH2.symm,hEW2⟩
 ·have hz:decide (l=k)=false:=decide_eq_false fun h=>hn (by rw[←h1,←h2,h])
  have hnn:¬(n1:Int)=(n2:Int):=by omega
  go_enter func56,ntmps56
  go_wp2
  go_ret
  exact⟨ZP (a:=false) hz.symm,Ext.rfl' w⟩
end Go.Proofs.Tryq
namespace Go.Nk
open Go Go.Region
open Go.Proofs.Tryq (Ext Z3 Z2)
variable {P:Program} {ops:Array Oper} {Q:Exit→Act→World→Prop}
variable {n:Nat} {Dl:List (Option Tmp)} {S:List (Option Value)} {L0:Tmp→Value} {M:(Nat→Bool)→(Tmp→Value)→World→Prop} {ℓ:Nat→Bool} {a:Act} {w w':World} {i:Nat} {o:Oper}
end Go.Nk
namespace Go.Proofs.Tryq
set_option maxRecDepth 100000
open Go Go.Nk Go.RowKit
theorem Z4r(n lo hi:Int)(w:World):Calls prog 93 #[.int .i64 n,.int .i64 lo,.int .i64 hi] w fun e w'=>e= .returned (.bool (decide (lo≤n∧n≤hi)))∧w'=w:=by
 by_cases h1:lo≤n
 ·by_cases h2:n≤hi
  ·go_enter func93,ntmps93
   go_wp2
   go_ret
   exact⟨ZP (a:=true) (by rw[Bool.eq_iff_iff];simp<;>omega),rfl⟩
  ·go_enter func93,ntmps93
   go_wp2
   go_ret
   exact⟨ZP (a:=false) (by rw[Bool.eq_iff_iff];simp<;>omega),rfl⟩
 ·go_enter func93,ntmps93
  go_wp2
  go_ret
  exact⟨ZP (a:=false) (by rw[Bool.eq_iff_iff];simp<;>omega),rfl⟩
def inR(n lo hi:Int):Bool:=decide (lo≤n∧n≤hi)
theorem Zgc(n lo hi:Int)(w:World):Calls prog 93 #[.int .i64 n,.int .i64 lo,.int .i64 hi] w fun e w'=>e= .returned (.bool (inR n lo hi))∧w'=w:=Z4r n lo hi w
theorem Z2e(a b lo hi:Int)(w:World):Calls prog 95 #[.agg #[.int .i64 a,.int .i64 b],.int .i64 lo,.int .i64 hi] w fun e w'=>e= .returned (.bool (decide (lo≤a∧a≤b∧b≤hi)))∧Ext w w':=by
 have hr:=fun n w=>Zgc n lo hi w
 have H:Hid (decide (lo≤a∧a≤b∧b≤hi)=(inR a lo hi&&(inR b lo hi&&decide (a≤b)))):=by
  show _=_
  simp only[inR]
  rw[Bool.eq_iff_iff]
  simp
  omega
 cases h1:inR a lo hi with
 |false=>
  have hr1:=hr a;simp only[h1] at hr1
  rw[h1] at H
  go_enter func95,ntmps95
  go_wp2_with (go_at_call 93;(with_reducible refine(hr1 _).mono ?_);rintro e w2 ⟨rfl,rfl⟩)
  go_ret
  exact⟨ZP (a:=false) (by rw[H.out];simp),(Ext.rfl' w).alloc _⟩
 |true=>
  have hr1:=hr a;simp only[h1] at hr1
  rw[h1] at H
  cases h2:inR b lo hi with
  |false=>
   have hr2:=hr b;simp only[h2] at hr2
   rw[h2] at H
   go_enter func95,ntmps95
   go_wp2_with (first|(go_at_call 93;(with_reducible refine(hr1 _).mono ?_);rintro e w2 ⟨rfl,rfl⟩)|(go_at_call 93;(with_reducible refine(hr2 _).mono ?_);rintro e w2 ⟨rfl,rfl⟩))
   go_ret
   exact⟨ZP (a:=false) (by rw[H.out];simp),(Ext.rfl' w).alloc _⟩
  |true=>
   have hr2:=hr b;simp only[h2] at hr2
   rw[h2] at H
   go_enter func95,ntmps95
   go_wp2_with (first|(go_at_call 93;(with_reducible refine(hr1 _).mono ?_);rintro e w2 ⟨rfl,rfl⟩)|(go_at_call 93;(with_reducible refine(hr2 _).mono ?_);rintro e w2 ⟨rfl,rfl⟩))
   go_ret
   exact⟨ZP (a:=decide (a≤b)) (by rw[H.out];simp),(Ext.rfl' w).alloc _⟩
end Go.Proofs.Tryq
namespace Go.Proofs.Tryq
set_option maxRecDepth 100000
set_option maxHeartbeats 2000000
open Go Go.Nk Go.RowKit
theorem Zg9(n:Nat)(w:World)(hn:n≤1000):Calls prog 44 #[.int .i64 n] w fun e w'=>∃x,e= .returned x∧OwnI w.heap.size w' x (upL n)∧Ext w w':=by
 obtain⟨N,hN⟩:∃N,N=w.heap.size:=⟨_,rfl⟩
 rw[←hN]
 go_enter func44,ntmps44
 go_wp2
 go_loopw [3,4] (fun v3 v4 wr=>∃i:Nat,i≤n∧v4= .int .i64 i∧OwnI N wr v3 (upL i)∧Ext w wr) (fun _ v4 _=>n - (intOf v4).toNat)
 case atStart=>exact⟨0,Nat.zero_le _,rfl,World.ownsRow_nil _ _ _ _,Ext.rfl' w⟩
 case round=>
  rename_i v3 _
  obtain⟨i,hi,rfl,hown,hE⟩:=hrel
  by_cases h0:i=n
  ·subst h0
   go_wp2
   go_ret
   exact⟨_,rfl,hown,hE⟩
  ·have hlt:i<n:=by omega
   have hlt2:(i:Int)<(n:Int):=by omega
   have hs:=hE.size
   have H3:Hid (upL (i+1)=upL i++[(i:Int)]):=by show _=_;simp[upL,List.range_succ]
   obtain⟨l,hl⟩:∃l,l=upL i:=⟨_,rfl⟩
   have hll:l.length=i:=by rw[hl];simp[upL]
   rw[←hl] at hown H3
   clear hl
   go_wp2_with (
    at_builtin
    refine wpList_append_own _ rfl _ _ _ rfl N 3 Tryz.t3 (.int .i64 0) 1 8 u27 i3 t3z t3s t3b rfl (by omega) _ _ _ rfl (hown.alloc _) ⟨wr.heap.size,0,none⟩ 1 1 [.int .i64 i] rfl rfl (Z1N _ _ _) (by intro u hu;simp at hu;subst hu;rfl) (by(try simp[maxLen]);omega) (by(try simp);omega) (by(try simp only[Z2]);omega) ?_
    intro v' w3 hown3 hgrow3 _
    have hE3:Ext w w3:=(hE.alloc _).grown hgrow3 (fun k hk=>by have:=(hown.lt k hk).1;omega))
   go_roundw
   case rel=>exact⟨i+1,by omega,by push_cast;rfl,by rw[H3.out];simpa[OwnI] using hown3,hE3⟩
   case measure=>simp[intOf];omega
set_option linter.all false
def RawU(w:World)(base:Option Addr)(l:List Int):Prop:=∀(i:Nat)(x:Int),l[i]? =some x→∃b off,base=some ⟨b,off,none⟩∧b<w.heap.size∧w.cell? ⟨b,off+i,none⟩=some (.int .u16 x)
theorem RawU.ext{w w':World}{base:Option Addr}{l:List Int}(h:RawU w base l)(e:Ext w w'):RawU w' base l:=fun i x hi=>by
 obtain⟨b,off,h1,h2,h3⟩:=h i x hi
 exact⟨b,off,h1,Nat.lt_of_lt_of_le h2 e.size,e.cellS h3⟩
theorem Zgj{w:World}{b:Nat}{a0 a1 a2 a3 a4:Value}{t:TypeId}(h:w.heap[b]? =some (.cells #[a0,a1,a2,a3,a4] t)):
 w.cell? ⟨b,0,none⟩=some a0∧w.cell? ⟨b,1,none⟩=some a1∧w.cell? ⟨b,2,none⟩=some a2∧w.cell? ⟨b,3,none⟩=some a3∧w.cell? ⟨b,4,none⟩=some a4:=
 ⟨Z0 h 0,Z0 h 1,Z0 h 2,Z0 h 3,Z0 h 4⟩
def Zgu(l:List Int)(k:Nat):Int:=l.getD k 0
theorem Zgp{l:List Int}{m:Int}(hm:0≤m)(h:∀x∈l,0≤x∧x≤m)(k:Nat):0≤Zgu l k∧Zgu l k≤m:=by
 unfold Zgu
 rw[List.getD_eq_getElem?_getD]
 cases hk:l[k]? with
 |none=>exact⟨Int.le_refl _,hm⟩
 |some x=>exact h x (List.mem_of_getElem? hk)
theorem Zgl(base:Option Addr)(n cap:Nat)(l:List Int)(k:Nat)(w:World)(hlen:l.length=n)(hk:k<1000)(hu:∀x∈l,0≤x∧x<65536)(h:RawU w base l):
 Calls prog 48 #[.slice base n cap,.int .i64 k] w fun e w'=>e= .returned (.int .i64 (Zgu l k))∧Ext w w':=by
 by_cases hkn:k<n
 ·obtain⟨x,hx⟩:∃x,l[k]? =some x:=⟨_,List.getElem?_eq_getElem (by omega)⟩
  obtain⟨b,off,rfl,hb,hc⟩:=h k x hx
  have hv:Hid (Zgu l k=x):=by show _=_;rw[Zgu,List.getD_eq_getElem?_getD,hx];rfl
  have hkn2:(k:Int)<(n:Int):=by omega
  have hw:wrap64 x=x:=Z6a _ (by have:=hu x (List.mem_of_getElem? hx);omega)
  clear hx h hu
  go_enter func48,ntmps48
  go_wp2
  rw[hv.out,hw]
  go_ret
  exact⟨rfl,Ext.rfl' _⟩
 ·have hv:Hid (Zgu l k=0):=by show _=_;rw[Zgu,List.getD_eq_getElem?_getD,List.getElem?_eq_none (by omega)];rfl
  have hkn2:¬(k:Int)<(n:Int):=by omega
  clear h hu
  go_enter func48,ntmps48
  go_wp2
  rw[hv.out]
  go_ret
  exact⟨rfl,Ext.rfl' _⟩
theorem Zgq(a b n:Int)(w:World)(hab:a≤b)(ha: -2000000≤a)(hb:b≤2000000)(hn:0≤n∧n<1099511627776):
 Calls prog 47 #[.agg #[.int .i64 a,.int .i64 b],.int .i64 n] w fun e w'=>e= .returned (.int .i64 (a+n % (b - a+1)))∧Ext w w':=by
 have h1:wrap64 (b - a)=b - a:=Z6a _ (by omega)
 have h2:wrap64 (b - a+1)=b - a+1:=Z6a _ (by omega)
 have h3:b - a+1≠0:=by omega
 have h4:n.tmod (b - a+1)=n % (b - a+1):=Int.tmod_eq_emod_of_nonneg hn.1
 have h5:0≤n % (b - a+1)∧n % (b - a+1)≤b - a:=⟨Int.emod_nonneg _ h3,by have:=Int.emod_lt_of_pos n (show 0<b - a+1 by omega);omega⟩
 have hE1:=(Ext.rfl' w).alloc (.cells #[.int .i64 a,.int .i64 b] 48)
 have hr:(w.alloc (.cells #[.int .i64 a,.int .i64 b] 48)).heap[w.heap.size]? =some (.cells #[.int .i64 a,.int .i64 b] 48):=by rw[Z3,if_pos rfl]
 go_enter func47,ntmps47
 go_wp2_with fail
 generalize World.alloc w _=w1 at hE1 hr⊢
 have q0:=Z0 hr 0;have q1:=Z0 hr 1
 simp only[List.getElem?_toArray,List.getElem?_cons_zero,List.getElem?_cons_succ] at q0 q1
 have g0:=Zet q0;have g1:=Zet q1
 refine ZeG 12 (by kernel_rfl) ?_
 refine ZeB [0,1,2,3,4,5,6,7,8,9,10,11] (by kernel_rfl) (by kernel_rfl) ?_
 simp only[ZeD,List.getElem?_cons_succ,List.getElem?_cons_zero,List.cons_append,List.nil_append]
 repeat (go_big_quiet_step (fail))
 refine wpQuiet_nil ?_
 refine Zf6 (by kernel_rfl) (fun W hW=> ?_)
 have hE2:=hE1.trans hW
 go_wp2
 go_ret
 exact⟨rfl,hE2⟩
end Go.Proofs.Tryq
namespace Go.Proofs.Tryq
open Go Go.Nk Go.RowKit
def ZiA(s:Rs):List Value:=[.int .i64 s.a,.int .i64 s.m,.int .i64 s.M,.int .i64 s.wi,.int .i64 s.li]
def Ziv(S:List Rs):List Value:=S.flatMap ZiA
theorem shotsV_len:∀S:List Rs,(Ziv S).length=S.length*5
 |[]=>rfl
 |s::S=>by
  have:=shotsV_len S
  simp only[Ziv,List.flatMap_cons,List.length_append,List.length_cons] at*
  rw[this];simp[ZiA];omega
theorem shotsV_at:∀(S:List Rs)(i:Nat)(s:Rs),S[i]? =some s→∀c,c<5→(Ziv S)[i*5+c]? =(ZiA s)[c]?
 |[],i,s,h,c,hc=>by simp at h
 |x::S,0,s,h,c,hc=>by
  obtain rfl:x=s:=by simpa using h
  simp only[Ziv,List.flatMap_cons]
  rw[List.getElem?_append_left (by simp[ZiA];omega)]
  simp
 |x::S,i+1,s,h,c,hc=>by
  have ih:=shotsV_at S i s (by simpa using h) c hc
  simp only[Ziv,List.flatMap_cons] at*
  rw[List.getElem?_append_right (by simp[ZiA];omega),←ih]
  congr 1
  simp[ZiA];omega
theorem ZiH(S T:List Rs):Ziv (S++T)=Ziv S++Ziv T:=by simp[Ziv]
theorem ZiM(S:List Rs):∀u∈Ziv S,u.oneCell'=true:=by
 intro u hu
 obtain⟨s,_,hs⟩:=List.mem_flatMap.1 hu
 simp only[ZiA,List.mem_cons,List.not_mem_nil,or_false] at hs
 rcases hs with rfl|rfl|rfl|rfl|rfl<;>rfl
theorem Zh7(b o j:Nat):(⟨b,o,none⟩:Addr).add j=⟨b,o+j,none⟩:=by unfold Addr.add;split<;>simp_all
theorem ZiI{w:World}{B O:Nat}{S:List Rs}(hB:B<w.heap.size)(h:∀j u,(Ziv S)[j]? =some u→w.cell? ⟨B,O+j,none⟩=some u):RawS w (some ⟨B,O,none⟩) S:=by
 intro i s hs
 have k:=fun c (hc:c<5) u (hu:(ZiA s)[c]? =some u)=>h (i*5+c) u ((shotsV_at S i s hs c hc).trans hu)
 refine⟨B,O,rfl,hB,?_⟩
 have k0:=k 0 (by omega) _ rfl;have k1:=k 1 (by omega) _ rfl;have k2:=k 2 (by omega) _ rfl;have k3:=k 3 (by omega) _ rfl;have k4:=k 4 (by omega) _ rfl
 exact⟨k0,k1,k2,k3,k4⟩
end Go.Proofs.Tryq
namespace Go.Proofs.Tryq
set_option maxRecDepth 100000
set_option maxHeartbeats 2000000
open Go Go.Nk Go.RowKit
@[go_sem] theorem eq46 (a b c d a' b' c' d':Int) (w:World):(Op.equalIn 10000 46 (.agg #[.int .i64 a,.int .i64 b,.int .i64 c,.int .i64 d]) (.agg #[.int .i64 a',.int .i64 b',.int .i64 c',.int .i64 d'])).run prog w= .ok (a==a'&&b==b'&&c==c'&&d==d') w:=by
  have u3:prog.underlying 3=some (.int .i64):=(underlying_eq 3).trans Tryz.underlying3
  have u44:prog.underlying 44=some (.int .i64):=(underlying_eq 44).trans Tryz.underlying44
  have u30:prog.underlying 30=some (.int .i64):=(underlying_eq 30).trans Tryz.underlying30
  have a3:=Tryz.isAgg3
  have z3:=Tryz.sizeOf3
  have hS:prog.underlying 46=some (.struct (prog.fieldsOf 46)):=by kernel_rfl
  have hp:prog.stoodInHeld 46=false:=by kernel_rfl
  rw[show(10000:Nat)=9999+1 from rfl,run_equalIn_agg w 9999 46 _ _ hS hp]
  simp only[Program.fieldsOf,underlying_eq,Tryz.underlying46]
  go_simp
  by_cases h1:a=a'<;>by_cases h2:b=b'<;>by_cases h3:c=c'<;>by_cases h4:d=d'<;>simp[h1,h2,h3,h4]
@[go_sem] theorem guard46 (op:BinOp) (p q:Operand) (xs ys:Array Value) (w:World):(eqGuard op 46 p q (.agg xs) (.agg ys)).run prog w= .ok () w:=run_eqGuard_agg w op 46 p q xs ys (by kernel_rfl)
def apB(x y:Ap):Bool:=x.p==y.p&&x.q==y.q&&(x.k:Int)==(y.k:Int)&&x.s==y.s
def apsB:List Ap→List Ap→Bool
 |[],[]=>true
 |x::l,y::k=>apB x y&&apsB l k
 |_,_=>false
theorem Z67{l k:List Ap}{i:Nat}{x y:Ap}(hx:l[i]? =some x)(hy:k[i]? =some y):apsB (l.drop i) (k.drop i)=(apB x y&&apsB (l.drop (i+1)) (k.drop (i+1))):=by rw[Z0b hx,Z0b hy];rfl
theorem apsB_len:∀{l k:List Ap},l.length≠k.length→apsB l k=false
 |[],[],h=>absurd rfl h
 |[],_::_,_=>rfl
 |_::_,[],_=>rfl
 |x::l,y::k,h=>by rw[apsB,apsB_len (l:=l) (k:=k) (by simpa using h),Bool.and_false]
def RawAp(w:World)(base:Option Addr)(A:List Ap):Prop:=∀(i:Nat)(x:Ap),A[i]? =some x→∃b off,base=some ⟨b,off,none⟩∧b<w.heap.size∧(w.cell? ⟨b,off+i*4,none⟩=some (.int .i64 x.p)∧w.cell? ⟨b,off+i*4+1,none⟩=some (.int .i64 x.q)∧w.cell? ⟨b,off+i*4+2,none⟩=some (.int .i64 x.k)∧w.cell? ⟨b,off+i*4+3,none⟩=some (.int .i64 x.s))
theorem RawAp.ext{w w':World}{base:Option Addr}{A:List Ap}(h:RawAp w base A)(e:Ext w w'):RawAp w' base A:=by
 intro i x hi
 obtain⟨b,off,h1,h2,h3,h4,h5,h6⟩:=h i x hi
 exact⟨b,off,h1,e.lt h2,e.cellS h3,e.cellS h4,e.cellS h5,e.cellS h6⟩
theorem Z25(a1:Option Addr)(n1 c1:Nat)(l:List Ap)(a2:Option Addr)(n2 c2:Nat)(k:List Ap)(w:World)(h1:l.length=n1)(h2:k.length=n2)(hb:n1≤1000000∧n2≤1000000)(hl:RawAp w a1 l)(hk:RawAp w a2 k):
 Calls prog 29 #[.slice a1 n1 c1,.slice a2 n2 c2] w fun e w'=>e= .returned (.bool (apsB l k))∧Ext w w':=by
 by_cases hn:n1=n2
 ·have H:Hid (apsB l k=apsB (l.drop 0) (k.drop 0)):=rfl
  subst hn
  obtain⟨n,hn⟩:∃n,n=n1:=⟨_,rfl⟩
  subst hn
  go_enter func29,ntmps29
  go_wp2
  go_loopw [5] (fun v wr=>∃i:Nat,i≤n∧v= .int .i64 i∧Ext w wr∧Hid (apsB l k=apsB (l.drop i) (k.drop i))) (fun v _=>n - (intOf v).toNat)
  case atStart=>exact⟨0,Nat.zero_le _,rfl,Ext.rfl' w,H⟩
  case round=>
   obtain⟨i,hi,rfl,hE,hH⟩:=hrel
   clear H
   by_cases hin:i=n
   ·subst hin
    have hz:apsB l k=true:=by rw[hH.out,Z1Z h1,Z1Z h2];rfl
    go_wp2
    go_ret
    exact⟨ZP (a:=true) hz.symm,hE⟩
   ·have hlt:i<n:=by omega
    obtain⟨x,hx⟩:∃x,l[i]? =some x:=⟨_,List.getElem?_eq_getElem (by omega)⟩
    obtain⟨y,hy⟩:∃y,k[i]? =some y:=⟨_,List.getElem?_eq_getElem (by omega)⟩
    obtain⟨ba,oa,rfl,hba,hxa⟩:=(hl.ext hE) i x hx
    obtain⟨bb,ob,rfl,hbb,hyb⟩:=(hk.ext hE) i y hy
    have eqAp:(!(x.p==y.p&&x.q==y.q&&(x.k:Int)==(y.k:Int)&&x.s==y.s))= !apB x y:=rfl
    go_wp2_with fail
    have gz0:=Zet hxa.1
    have gz1:=Zet hxa.2.1
    have gz2:=Zet hxa.2.2.1
    have gz3:=Zet hxa.2.2.2
    have gz4:=Zet hyb.1
    have gz5:=Zet hyb.2.1
    have gz6:=Zet hyb.2.2.1
    have gz7:=Zet hyb.2.2.2
    refine ZeG 9 (by kernel_rfl) ?_
    refine ZeB [0,1,2,3,4,5,6,7,8] (by kernel_rfl) (by kernel_rfl) ?_
    simp only[ZeD,List.getElem?_cons_succ,List.getElem?_cons_zero,List.cons_append,List.nil_append]
    repeat (go_big_quiet_step (fail))
    refine wpQuiet_nil ?_
    refine Zf6 (by kernel_rfl) (fun W hW=> ?_)
    have hEW:=hW
    clear gz0 gz1 gz2 gz3 gz4 gz5 gz6 gz7
    have hEW2:=hE.trans hEW
    by_cases hxy:apB x y=true
    ·have hb:(!apB x y)=false:=by simp[hxy]
     have hH2:Hid (apsB l k=apsB (l.drop (i+1)) (k.drop (i+1))):=by show _=_;rw[hH.out,Z67 hx hy,hxy,Bool.true_and]
     rw[hb]
     clear hb
     go_wp2
     go_roundw
     case rel=>exact⟨i+1,by omega,by push_cast;rfl,hEW2,hH2⟩
     case measure=>simp[intOf];omega
    ·have hb:(!apB x y)=true:=by simpa using hxy
     have hH2:apsB l k=false:=by rw[hH.out,Z67 hx hy,(by simpa using hxy:apB x y=false),Bool.false_and]
     rw[hb]
     clear hb
     go_wp2
     go_ret
     exact⟨ZP (a:=false) hH2.symm,hEW2⟩
 ·have hz:apsB l k=false:=apsB_len (by omega)
  have hnn:¬(n1:Int)=(n2:Int):=by omega
  go_enter func29,ntmps29
  go_wp2
  go_ret
  exact⟨ZP (a:=false) hz.symm,Ext.rfl' w⟩
end Go.Proofs.Tryq
