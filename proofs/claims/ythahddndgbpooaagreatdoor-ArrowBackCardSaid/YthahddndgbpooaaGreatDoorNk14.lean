import Derived.Test.YthahddndgbpooaaGreatDoorNkA
import Derived.Test.YthahddndgbpooaaGreatDoorNk08
import Derived.Test.YthahddndgbpooaaGreatDoorNk13
set_option linter.all false
set_option maxHeartbeats 2000000
open Go Go.Nk Go.RowKit
namespace Go.Proofs.Tryw
open Go.Proofs.Tryq (ShotAt Zg lo hi Grew Z83 upI dnI atC part_size part_get Z1j Z1R Z0Y Z4I zeros Z3w Z2q Z07)
theorem Z39(r0 r1 r2 r3 x0 x1 x2 x3 x4 k:Int)(b off len cap:Nat)(w:World)(hk:0<=k)(hk':k<len)(hb:b<w.heap.size)(hs:ShotAt w b (off+k.toNat*5) x0 x1 x2 x3 x4):
 Calls prog 66 #[.agg (Zg r0 r1 r2 r3 b off len cap),k] w λe w'=>
  e= .returned (.agg #[.int .i64 (lo x1 x3 x4 r2 r3),.int .i64 (hi x2 x3 x4 r2 r3)])/\Grew w w' (Z83 (Zg r0 r1 r2 r3 b off len cap) (lo x1 x3 x4 r2 r3) (hi x2 x3 x4 r2 r3) x0 x1 x2 x3 x4):=by
 obtain⟨h0,h1,h2,h3,h4⟩:=hs;simp only[Zg,lo,hi,Z83];go_enter func66,ntmps66;have B9:b<w.heap.size+1:=by omega
 have hp:∀(v:World)(o:Obj)(off':Nat),b<v.heap.size->(v.alloc o).cell? ⟨b,off',none⟩=v.cell? ⟨b,off',none⟩:=λv o off' h=>World.cell?_alloc_lt _ _ _ h
 go_wp2;refine VE ((Z07 rfl _ _ _).trans ?_) rfl ⟨rfl,(((Go.Proofs.Tryq.Grew.nil w).push _).push _).push _⟩;simp[go_sem]
theorem Z09(n l h:Int)(w:World):Calls prog 65 #[n,l,h] w λe w'=>e= .returned (.bool (decide (l<=n/\n<=h)))/\w'=w:=by
 go_enter func65,ntmps65;go_wp2;all_goals (go_ret;simp;omega)
theorem Z0M(n:Int)(w:World):Calls prog 113 #[n] w λe w'=>e= .returned (.bool (decide (0<=n/\n<=90)))/\w'=w:=by
 go_enter func113,ntmps113;go_wp2;all_goals (go_ret;simp;omega)
theorem Z6q(r0 r1 r2 r3 x1 x2 x3 x4 k:Int)(c:Nat)(b off len cap:Nat)(w:World)(hk:0<=k)(hk':k<len)(hb:b<w.heap.size)(hat:c<=90)(hs:ShotAt w b (off+k.toNat*5) c x1 x2 x3 x4)(l h:Int)(hl:l=lo x1 x3 x4 r2 r3)(hh:h=hi x2 x3 x4 r2 r3):
 Calls prog 141 #[.agg (Zg r0 r1 r2 r3 b off len cap),k] w λe w'=>e= .returned (.pointer (some ⟨w.heap.size+1,0,none⟩))/\
  Grew w w' (Z4I (Zg r0 r1 r2 r3 b off len cap) (Go.Proofs.Tryq.part l h r0 r1 c 0 91) l h c x1 x2 x3 x4):=by
 have h0:=hs.c0
 have hw:Calls prog 66 #[.agg (Zg r0 r1 r2 r3 b off len cap),k] ((w.alloc (.cells (Zg r0 r1 r2 r3 b off len cap) 132)).alloc (.cells Tryz.zeroCells274 274)) λe w'=>e= .returned (.agg #[l,h])/\
  Grew w w' (Z4I (Zg r0 r1 r2 r3 b off len cap) Tryz.zeroCells274 l h c x1 x2 x3 x4)/\w'.cell? ⟨w.heap.size+1,c*2,none⟩=some (.int .i64 0)/\w'.cell? ⟨w.heap.size+1,c*2+1,none⟩=some (.int .i64 0)/\
  w'.frozen? ⟨w.heap.size+1,c*2,none⟩=false/\w'.frozen? ⟨w.heap.size+1,c*2+1,none⟩=false:=by
  have hG:Grew w ((w.alloc (.cells (Zg r0 r1 r2 r3 b off len cap) 132)).alloc (.cells Tryz.zeroCells274 274)) _:=((Go.Proofs.Tryq.Grew.nil w).push _).push _;subst hl;subst hh;refine(Z39 r0 r1 r2 r3 c x1 x2 x3 x4 k b off len cap _ hk hk' (by rw[hG.size];omega) ⟨?_,?_,?_,?_,?_⟩).mono ?_
  ·rw[hG.cell hb];exact hs.c0
  ·rw[hG.cell hb];exact hs.c1
  ·rw[hG.cell hb];exact hs.c2
  ·rw[hG.cell hb];exact hs.c3
  ·rw[hG.cell hb];exact hs.c4
  ·rintro e w' ⟨rfl,h2⟩;have h3:Grew w w' (Z4I (Zg r0 r1 r2 r3 b off len cap) Tryz.zeroCells274 (lo x1 x3 x4 r2 r3) (hi x2 x3 x4 r2 r3) c x1 x2 x3 x4):=hG.trans h2;exact⟨rfl,h3,(h3.cellNew 1 rfl _).trans (Z2q (by omega)),(h3.cellNew 1 rfl _).trans (Z2q (by omega)),h3.thaw 1 rfl _,h3.thaw 1 rfl _⟩
 simp only[Zg] at hw⊢;clear hs hl hh;go_enter func141,ntmps141;have B9:b<w.heap.size+1:=by omega
 have hp:∀(v:World)(o:Obj)(off':Nat),b<v.heap.size->(v.alloc o).cell? ⟨b,off',none⟩=v.cell? ⟨b,off',none⟩:=λv o off' h=>World.cell?_alloc_lt _ _ _ h
 go_wp2_with (
  go_at_call 66
  refine hw.mono ?_;rintro e w' ⟨rfl,hG,z0,z1,f0,f1⟩;clear hw hp B9 h0)
 have Er:=(hG.setCell 1 rfl (c*2) (.int .i64 l)).setCell 1 rfl (c*2+1) (.int .i64 h);have eP:((Tryz.zeroCells274).setIfInBounds (c*2) (.int .i64 l)).setIfInBounds (c*2+1) (.int .i64 h)=Go.Proofs.Tryq.part l h r0 r1 c c (c+1):=by
  have:=Z0Y l h r0 r1 c c c (a':=c) (d':=c+1) (j:=c) hat (λx=>by omega);rw[<-Z3w] at this;rw[<-this];simp[atC,upI]
 replace Er:Grew w ((w'.setCell ⟨w.heap.size+1,c*2,none⟩ (.int .i64 l)).setCell ⟨w.heap.size+1,c*2+1,none⟩ (.int .i64 h)) (Z4I #[r0,r1,r2,r3,.slice (some ⟨b,off,none⟩) len cap] (Go.Proofs.Tryq.part l h r0 r1 c c (c+1)) l h c x1 x2 x3 x4):=by rw[<-eP];exact Er
 generalize (w'.setCell ⟨w.heap.size+1,c*2,none⟩ (.int .i64 l)).setCell ⟨w.heap.size+1,c*2+1,none⟩ (.int .i64 h)=w2 at Er⊢;clear hG z0 z1 f0 f1 eP
 go_loopw [7] (λv wr=>∃e:Nat,c<=e/\e<=90/\v= .int .i64 (e+1)/\Grew w wr (Z4I #[r0,r1,r2,r3,.slice (some ⟨b,off,none⟩) len cap] (Go.Proofs.Tryq.part l h r0 r1 c c (e+1)) l h c x1 x2 x3 x4))
  (λv _=>91 - (intOf v).toNat)
 case atStart=>exact⟨c,XB _,hat,rfl,Er⟩
 case round=>
  obtain⟨e,Ld,Em,rfl,Ba⟩:=hrel;clear Er
  go_wp2_with (
   go_at_call 113
   refine(Z0M _ _).mono ?_;rintro e' wr' ⟨rfl,rfl⟩)
  ·have A3:e+1<=90:=by omega
   have g0:wr'.cell? ⟨w.heap.size+1,e*2,none⟩=some (.int .i64 (atC l h r0 r1 c e).1):=(Ba.cellNew 1 rfl _).trans (Z1j _ _ _ _ _ _ _ (by omega) Ld (by omega));have g1:wr'.cell? ⟨w.heap.size+1,e*2+1,none⟩=some (.int .i64 (atC l h r0 r1 c e).2):=(Ba.cellNew 1 rfl _).trans (Z1R _ _ _ _ _ _ _ (by omega) Ld (by omega));have g2:wr'.cell? ⟨w.heap.size,0,none⟩=some (.int .i64 r0):=Ba.cellNew 0 rfl _;have g3:wr'.cell? ⟨w.heap.size,1,none⟩=some (.int .i64 r1):=Ba.cellNew 0 rfl _;have g4:wr'.cell? ⟨w.heap.size+1,(e+1)*2,none⟩=some (.int .i64 0):=(Ba.cellNew 1 rfl _).trans ((part_get _ _ _ _ _ _ _ (by omega)).trans (by rw[XA (by omega)]));have g5:wr'.cell? ⟨w.heap.size+1,(e+1)*2+1,none⟩=some (.int .i64 0):=(Ba.cellNew 1 rfl _).trans ((part_get _ _ _ _ _ _ _ (by omega)).trans (by rw[XA (by omega)]));have g6:wr'.frozen? ⟨w.heap.size+1,(e+1)*2,none⟩=false:=Ba.thaw 1 rfl _;have g7:wr'.frozen? ⟨w.heap.size+1,(e+1)*2+1,none⟩=false:=Ba.thaw 1 rfl _
   go_region
   all_goals go_wp2
   refine⟨⟨e+1,by omega,A3,by push_cast;rfl,?_⟩,by simp[intOf];omega⟩;have Hz:=((Ba.setCell 1 rfl ((e+1)*2) (.int .i64 (wrap64 ((atC l h r0 r1 c e).1+r0)))).setCell 1 rfl ((e+1)*2+1) (.int .i64 (wrap64 ((atC l h r0 r1 c e).2+r1)))).drew;have eA:atC l h r0 r1 c (e+1)=(wrap64 ((atC l h r0 r1 c e).1+r0),wrap64 ((atC l h r0 r1 c e).2+r1)):=by
    have e1:e+1 - c=(e - c)+1:=(by omega);simp only[atC,YZ Ld,YZ (show c<=e+1 by omega),e1,upI]
   have eP:=Z0Y l h r0 r1 c c (e+1) (a':=c) (d':=e+1+1) (j:=e+1) A3 (λx=>by omega);rw[eA] at eP;rw[<-eP];exact Hz
  ·have he:e=90:=by omega
   subst he;have Nr:Grew w wr' (Z4I #[r0,r1,r2,r3,.slice (some ⟨b,off,none⟩) len cap] (Go.Proofs.Tryq.part l h r0 r1 c c 91) l h c x1 x2 x3 x4):=Ba;clear Ba
   go_loopw [8] (λv wr=>∃f:Nat,f<=c/\v= .int .i64 ((f:Int) - 1)/\Grew w wr (Z4I #[r0,r1,r2,r3,.slice (some ⟨b,off,none⟩) len cap] (Go.Proofs.Tryq.part l h r0 r1 c f 91) l h c x1 x2 x3 x4))
    (λv _=>(intOf v+1).toNat)
   case atStart=>exact⟨c,XB _,rfl,Nr⟩
   case round=>
    obtain⟨f,hf,rfl,Ba⟩:=hrel;clear Nr;rcases f with _|g
    ·go_wp2_with (
      go_at_call 113
      refine(Z0M _ _).mono ?_;rintro e' wr2 ⟨rfl,rfl⟩)
     go_ret;exact⟨rfl,Ba⟩
    ·have ev:((g+1:Nat):Int) - 1=g:=(by omega);rw[ev];have g0:wr.cell? ⟨w.heap.size+1,(g+1)*2,none⟩=some (.int .i64 (atC l h r0 r1 c (g+1)).1):=(Ba.cellNew 1 rfl _).trans (Z1j _ _ _ _ _ _ _ (by omega) (by omega) (by omega));have g1:wr.cell? ⟨w.heap.size+1,(g+1)*2+1,none⟩=some (.int .i64 (atC l h r0 r1 c (g+1)).2):=(Ba.cellNew 1 rfl _).trans (Z1R _ _ _ _ _ _ _ (by omega) (by omega) (by omega));have g2:wr.cell? ⟨w.heap.size,0,none⟩=some (.int .i64 r0):=Ba.cellNew 0 rfl _;have g3:wr.cell? ⟨w.heap.size,1,none⟩=some (.int .i64 r1):=Ba.cellNew 0 rfl _;have g4:wr.cell? ⟨w.heap.size+1,g*2,none⟩=some (.int .i64 0):=(Ba.cellNew 1 rfl _).trans ((part_get _ _ _ _ _ _ _ (by omega)).trans (by rw[XA (by omega)]));have g5:wr.cell? ⟨w.heap.size+1,g*2+1,none⟩=some (.int .i64 0):=(Ba.cellNew 1 rfl _).trans ((part_get _ _ _ _ _ _ _ (by omega)).trans (by rw[XA (by omega)]));have g6:wr.frozen? ⟨w.heap.size+1,g*2,none⟩=false:=Ba.thaw 1 rfl _;have g7:wr.frozen? ⟨w.heap.size+1,g*2+1,none⟩=false:=Ba.thaw 1 rfl _
     go_wp2_with (
      go_at_call 113
      refine(Z0M _ _).mono ?_;rintro e' wr2 ⟨rfl,rfl⟩)
     go_region
     all_goals go_wp2
     refine⟨?_,?measure⟩;iterate 28 apply Exists.intro
     refine⟨?rel,rfl⟩
     case rel=>
      refine⟨g,by omega,rfl,?_⟩;have Hz:=((Ba.setCell 1 rfl (g*2) (.int .i64 (wrap64 ((atC l h r0 r1 c (g+1)).1 - r1)))).setCell 1 rfl (g*2+1) (.int .i64 (wrap64 ((atC l h r0 r1 c (g+1)).2 - r0)))).drew;have eA:atC l h r0 r1 c g=(wrap64 ((atC l h r0 r1 c (g+1)).1 - r1),wrap64 ((atC l h r0 r1 c (g+1)).2 - r0)):=by
       have e1:c - g=(c - (g+1))+1:=(by omega);by_cases h1:c<=g+1
       ·have e2:c=g+1:=(by omega);simp only[atC,YZ h1,XA (show¬c<=g by omega),e1,dnI];simp[e2,dnI,upI]
       ·simp only[atC,XA h1,XA (show¬c<=g by omega),e1,dnI]
      have eP:=Z0Y l h r0 r1 c (g+1) 91 (a':=g) (d':=91) (j:=g) (by omega) (λx=>by omega);rw[eA] at eP;rw[<-eP];exact Hz
     case measure=>simp[intOf]
end Go.Proofs.Tryw
