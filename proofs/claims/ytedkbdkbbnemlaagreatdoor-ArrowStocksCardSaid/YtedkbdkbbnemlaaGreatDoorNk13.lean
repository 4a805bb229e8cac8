import Derived.Test.YtedkbdkbbnemlaaGreatDoorNk08
import Derived.Test.YtedkbdkbbnemlaaGreatDoorNk12
set_option linter.all false
namespace Go.Proofs.Tryw
set_option maxHeartbeats 2000000
open Go Go.Nk Go.RowKit
open Go.Proofs.Tryq (ShotAt Zg lo hi Grew Z83 upI dnI atC part_size part_get Z1j Z1R Z0Y Z4I zeros Z3w Z2q Z07)
theorem Z39(r0 r1 r2 r3 x0 x1 x2 x3 x4 k:Int)(b off len cap:Nat)(w:World)(hk:0<=k)(hk':k<len)(hb:b<w.heap.size)(hs:ShotAt w b (off+k.toNat*5) x0 x1 x2 x3 x4):
 Calls prog 111 #[.agg (Zg r0 r1 r2 r3 b off len cap),.int .i64 k] w fun e w'=>
  e= .returned (.agg #[.int .i64 (lo x1 x3 x4 r2 r3),.int .i64 (hi x2 x3 x4 r2 r3)])/\Grew w w' (Z83 (Zg r0 r1 r2 r3 b off len cap) (lo x1 x3 x4 r2 r3) (hi x2 x3 x4 r2 r3) x0 x1 x2 x3 x4):=by
 obtain⟨h0,h1,h2,h3,h4⟩:=hs;simp only[Zg,lo,hi,Z83];go_enter func111,ntmps111;have B6:b<w.heap.size+1:=by omega
 have hp:∀(v:World)(o:Obj)(off':Nat),b<v.heap.size->(v.alloc o).cell? ⟨b,off',none⟩=v.cell? ⟨b,off',none⟩:=fun v o off' h=>World.cell?_alloc_lt _ _ _ h
 go_wp2;refine bodyPost_ret ((Z07 rfl _ _ _).trans ?_) rfl ⟨rfl,(((Go.Proofs.Tryq.Grew.nil w).push _).push _).push _⟩;simp[go_sem]
theorem Z09(n l h:Int)(w:World):Calls prog 110 #[.int .i64 n,.int .i64 l,.int .i64 h] w fun e w'=>e= .returned (.bool (decide (l<=n/\n<=h)))/\w'=w:=by
 go_enter func110,ntmps110;go_wp2;all_goals (go_ret;simp;omega)
theorem Z0M(n:Int)(w:World):Calls prog 152 #[.int .i64 n] w fun e w'=>e= .returned (.bool (decide (0<=n/\n<=90)))/\w'=w:=by
 go_enter func152,ntmps152;go_wp2;all_goals (go_ret;simp;omega)
theorem Z6q(r0 r1 r2 r3 x1 x2 x3 x4 k:Int)(c:Nat)(b off len cap:Nat)(w:World)(hk:0<=k)(hk':k<len)(hb:b<w.heap.size)(hat:c<=90)(hs:ShotAt w b (off+k.toNat*5) c x1 x2 x3 x4)(l h:Int)(hl:l=lo x1 x3 x4 r2 r3)(hh:h=hi x2 x3 x4 r2 r3):
 Calls prog 164 #[.agg (Zg r0 r1 r2 r3 b off len cap),.int .i64 k] w fun e w'=>e= .returned (.pointer (some ⟨w.heap.size+1,0,none⟩))/\
  Grew w w' (Z4I (Zg r0 r1 r2 r3 b off len cap) (Go.Proofs.Tryq.part l h r0 r1 c 0 91) l h c x1 x2 x3 x4):=by
 have h0:=hs.c0
 have hw:Calls prog 111 #[.agg (Zg r0 r1 r2 r3 b off len cap),.int .i64 k] ((w.alloc (.cells (Zg r0 r1 r2 r3 b off len cap) 143)).alloc (.cells Tryz.zeroCells224 224)) fun e w'=>e= .returned (.agg #[.int .i64 l,.int .i64 h])/\
  Grew w w' (Z4I (Zg r0 r1 r2 r3 b off len cap) Tryz.zeroCells224 l h c x1 x2 x3 x4)/\w'.cell? ⟨w.heap.size+1,c*2,none⟩=some (.int .i64 0)/\w'.cell? ⟨w.heap.size+1,c*2+1,none⟩=some (.int .i64 0)/\
  w'.frozen? ⟨w.heap.size+1,c*2,none⟩=false/\w'.frozen? ⟨w.heap.size+1,c*2+1,none⟩=false:=by
  have hG:Grew w ((w.alloc (.cells (Zg r0 r1 r2 r3 b off len cap) 143)).alloc (.cells Tryz.zeroCells224 224)) _:=((Go.Proofs.Tryq.Grew.nil w).push _).push _;subst hl;subst hh;refine(Z39 r0 r1 r2 r3 c x1 x2 x3 x4 k b off len cap _ hk hk' (by rw[hG.size];omega) ⟨?_,?_,?_,?_,?_⟩).mono ?_
  ·rw[hG.cell hb];exact hs.c0
  ·rw[hG.cell hb];exact hs.c1
  ·rw[hG.cell hb];exact hs.c2
  ·rw[hG.cell hb];exact hs.c3
  ·rw[hG.cell hb];exact hs.c4
  ·rintro e w' ⟨rfl,h2⟩;have h3:Grew w w' (Z4I (Zg r0 r1 r2 r3 b off len cap) Tryz.zeroCells224 (lo x1 x3 x4 r2 r3) (hi x2 x3 x4 r2 r3) c x1 x2 x3 x4):=hG.trans h2;exact⟨rfl,h3,(h3.cellNew 1 rfl _).trans (Z2q (by omega)),(h3.cellNew 1 rfl _).trans (Z2q (by omega)),h3.thaw 1 rfl _,h3.thaw 1 rfl _⟩
 simp only[Zg] at hw⊢;clear hs hl hh;go_enter func164,ntmps164;have B6:b<w.heap.size+1:=by omega
 have hp:∀(v:World)(o:Obj)(off':Nat),b<v.heap.size->(v.alloc o).cell? ⟨b,off',none⟩=v.cell? ⟨b,off',none⟩:=fun v o off' h=>World.cell?_alloc_lt _ _ _ h
 go_wp2_with (
  go_at_call 111
  refine hw.mono ?_;rintro e w' ⟨rfl,hG,z0,z1,f0,f1⟩;clear hw hp B6 h0)
 have Eh:=(hG.setCell 1 rfl (c*2) (.int .i64 l)).setCell 1 rfl (c*2+1) (.int .i64 h);have eP:((Tryz.zeroCells224).setIfInBounds (c*2) (.int .i64 l)).setIfInBounds (c*2+1) (.int .i64 h)=Go.Proofs.Tryq.part l h r0 r1 c c (c+1):=by
  have:=Z0Y l h r0 r1 c c c (a':=c) (d':=c+1) (j:=c) hat (fun x=>by omega);rw[<-Z3w] at this;rw[<-this];simp[atC,upI]
 replace Eh:Grew w ((w'.setCell ⟨w.heap.size+1,c*2,none⟩ (.int .i64 l)).setCell ⟨w.heap.size+1,c*2+1,none⟩ (.int .i64 h)) (Z4I #[.int .i64 r0,.int .i64 r1,.int .i64 r2,.int .i64 r3,.slice (some ⟨b,off,none⟩) len cap] (Go.Proofs.Tryq.part l h r0 r1 c c (c+1)) l h c x1 x2 x3 x4):=by rw[<-eP];exact Eh
 generalize (w'.setCell ⟨w.heap.size+1,c*2,none⟩ (.int .i64 l)).setCell ⟨w.heap.size+1,c*2+1,none⟩ (.int .i64 h)=w2 at Eh⊢;clear hG z0 z1 f0 f1 eP
 go_loopw [7] (fun v wr=>∃e:Nat,c<=e/\e<=90/\v= .int .i64 (e+1)/\Grew w wr (Z4I #[.int .i64 r0,.int .i64 r1,.int .i64 r2,.int .i64 r3,.slice (some ⟨b,off,none⟩) len cap] (Go.Proofs.Tryq.part l h r0 r1 c c (e+1)) l h c x1 x2 x3 x4))
  (fun v _=>91 - (intOf v).toNat)
 case atStart=>exact⟨c,Nat.le_refl _,hat,rfl,Eh⟩
 case round=>
  obtain⟨e,Kk,H9,rfl,B7⟩:=hrel;clear Eh
  go_wp2_with (
   go_at_call 152
   refine(Z0M _ _).mono ?_;rintro e' wr' ⟨rfl,rfl⟩)
  ·have A4:e+1<=90:=by omega
   have g0:wr'.cell? ⟨w.heap.size+1,e*2,none⟩=some (.int .i64 (atC l h r0 r1 c e).1):=(B7.cellNew 1 rfl _).trans (Z1j _ _ _ _ _ _ _ (by omega) Kk (by omega));have g1:wr'.cell? ⟨w.heap.size+1,e*2+1,none⟩=some (.int .i64 (atC l h r0 r1 c e).2):=(B7.cellNew 1 rfl _).trans (Z1R _ _ _ _ _ _ _ (by omega) Kk (by omega));have g2:wr'.cell? ⟨w.heap.size,0,none⟩=some (.int .i64 r0):=B7.cellNew 0 rfl _;have g3:wr'.cell? ⟨w.heap.size,1,none⟩=some (.int .i64 r1):=B7.cellNew 0 rfl _;have g4:wr'.cell? ⟨w.heap.size+1,(e+1)*2,none⟩=some (.int .i64 0):=(B7.cellNew 1 rfl _).trans ((part_get _ _ _ _ _ _ _ (by omega)).trans (by rw[if_neg (by omega)]));have g5:wr'.cell? ⟨w.heap.size+1,(e+1)*2+1,none⟩=some (.int .i64 0):=(B7.cellNew 1 rfl _).trans ((part_get _ _ _ _ _ _ _ (by omega)).trans (by rw[if_neg (by omega)]));have g6:wr'.frozen? ⟨w.heap.size+1,(e+1)*2,none⟩=false:=B7.thaw 1 rfl _;have g7:wr'.frozen? ⟨w.heap.size+1,(e+1)*2+1,none⟩=false:=B7.thaw 1 rfl _
   go_region
   all_goals go_wp2
   refine⟨⟨e+1,by omega,A4,by push_cast;rfl,?_⟩,by simp[intOf];omega⟩;have Hc:=((B7.setCell 1 rfl ((e+1)*2) (.int .i64 (wrap64 ((atC l h r0 r1 c e).1+r0)))).setCell 1 rfl ((e+1)*2+1) (.int .i64 (wrap64 ((atC l h r0 r1 c e).2+r1)))).drew;have eA:atC l h r0 r1 c (e+1)=(wrap64 ((atC l h r0 r1 c e).1+r0),wrap64 ((atC l h r0 r1 c e).2+r1)):=by
    have e1:e+1 - c=(e - c)+1:=(by omega);simp only[atC,if_pos Kk,if_pos (show c<=e+1 by omega),e1,upI]
   have eP:=Z0Y l h r0 r1 c c (e+1) (a':=c) (d':=e+1+1) (j:=e+1) A4 (fun x=>by omega);rw[eA] at eP;rw[<-eP];exact Hc
  ·have he:e=90:=by omega
   subst he;have Nl:Grew w wr' (Z4I #[.int .i64 r0,.int .i64 r1,.int .i64 r2,.int .i64 r3,.slice (some ⟨b,off,none⟩) len cap] (Go.Proofs.Tryq.part l h r0 r1 c c 91) l h c x1 x2 x3 x4):=B7;clear B7
   go_loopw [8] (fun v wr=>∃f:Nat,f<=c/\v= .int .i64 ((f:Int) - 1)/\Grew w wr (Z4I #[.int .i64 r0,.int .i64 r1,.int .i64 r2,.int .i64 r3,.slice (some ⟨b,off,none⟩) len cap] (Go.Proofs.Tryq.part l h r0 r1 c f 91) l h c x1 x2 x3 x4))
    (fun v _=>(intOf v+1).toNat)
   case atStart=>exact⟨c,Nat.le_refl _,rfl,Nl⟩
   case round=>
    obtain⟨f,hf,rfl,B7⟩:=hrel;clear Nl;rcases f with _|g
    ·go_wp2_with (
      go_at_call 152
      refine(Z0M _ _).mono ?_;rintro e' wr2 ⟨rfl,rfl⟩)
     go_ret;exact⟨rfl,B7⟩
    ·have ev:((g+1:Nat):Int) - 1=g:=(by omega);rw[ev];have g0:wr.cell? ⟨w.heap.size+1,(g+1)*2,none⟩=some (.int .i64 (atC l h r0 r1 c (g+1)).1):=(B7.cellNew 1 rfl _).trans (Z1j _ _ _ _ _ _ _ (by omega) (by omega) (by omega));have g1:wr.cell? ⟨w.heap.size+1,(g+1)*2+1,none⟩=some (.int .i64 (atC l h r0 r1 c (g+1)).2):=(B7.cellNew 1 rfl _).trans (Z1R _ _ _ _ _ _ _ (by omega) (by omega) (by omega));have g2:wr.cell? ⟨w.heap.size,0,none⟩=some (.int .i64 r0):=B7.cellNew 0 rfl _;have g3:wr.cell? ⟨w.heap.size,1,none⟩=some (.int .i64 r1):=B7.cellNew 0 rfl _;have g4:wr.cell? ⟨w.heap.size+1,g*2,none⟩=some (.int .i64 0):=(B7.cellNew 1 rfl _).trans ((part_get _ _ _ _ _ _ _ (by omega)).trans (by rw[if_neg (by omega)]));have g5:wr.cell? ⟨w.heap.size+1,g*2+1,none⟩=some (.int .i64 0):=(B7.cellNew 1 rfl _).trans ((part_get _ _ _ _ _ _ _ (by omega)).trans (by rw[if_neg (by omega)]));have g6:wr.frozen? ⟨w.heap.size+1,g*2,none⟩=false:=B7.thaw 1 rfl _;have g7:wr.frozen? ⟨w.heap.size+1,g*2+1,none⟩=false:=B7.thaw 1 rfl _
     go_wp2_with (
      go_at_call 152
      refine(Z0M _ _).mono ?_;rintro e' wr2 ⟨rfl,rfl⟩)
     go_region
     all_goals go_wp2
     refine⟨?_,?measure⟩;iterate 28 apply Exists.intro
     refine⟨?rel,rfl⟩
     case rel=>
      refine⟨g,by omega,rfl,?_⟩;have Hc:=((B7.setCell 1 rfl (g*2) (.int .i64 (wrap64 ((atC l h r0 r1 c (g+1)).1 - r1)))).setCell 1 rfl (g*2+1) (.int .i64 (wrap64 ((atC l h r0 r1 c (g+1)).2 - r0)))).drew;have eA:atC l h r0 r1 c g=(wrap64 ((atC l h r0 r1 c (g+1)).1 - r1),wrap64 ((atC l h r0 r1 c (g+1)).2 - r0)):=by
       have e1:c - g=(c - (g+1))+1:=(by omega);by_cases h1:c<=g+1
       ·have e2:c=g+1:=(by omega);simp only[atC,if_pos h1,if_neg (show¬c<=g by omega),e1,dnI];simp[e2,dnI,upI]
       ·simp only[atC,if_neg h1,if_neg (show¬c<=g by omega),e1,dnI]
      have eP:=Z0Y l h r0 r1 c (g+1) 91 (a':=g) (d':=91) (j:=g) (by omega) (fun x=>by omega);rw[eA] at eP;rw[<-eP];exact Hc
     case measure=>simp[intOf]
end Go.Proofs.Tryw
