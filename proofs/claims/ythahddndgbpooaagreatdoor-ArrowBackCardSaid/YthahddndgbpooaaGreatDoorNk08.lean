import Derived.Test.YthahddndgbpooaaGreatDoorNkA
import Derived.Test.YthahddndgbpooaaGreatDoorNk07
import Derived.BigRegion
import Derived.Deep.RegionWith
import Derived.LoopTactic
import Derived.WalkSpells
set_option linter.all false
set_option maxRecDepth 100000
set_option maxHeartbeats 4000000
open Go
variable {cc:Array Value}{fn:Func}{B a' b d' j k m n:Nat}{p:Nat->Nat}{o:Obj}{e t ty:TypeId}{x y:Value}{w w' w'':World}
namespace Go.Proofs.Tryq
section
open Go Go.Nk Go.RowKit
variable [Tw]
theorem Z07{p:Tmp}(h:fn.results= #[.cell p ty])(tmps:Array Value)(P:Program)(w:World):
 (results fn tmps).run P w=((asAddr (tmps.getD p undef)).run P w).andThen λa w₁=>(loadVar ty a).run P w₁:=by
 simp only[results,h];simp[UM,Result.andThen]
structure ShotAt(w:World)(b off:Nat)(x0 x1 x2 x3 x4:Int):Prop where
 c0:w.cell? ⟨b,off,none⟩=some (.int .i64 x0)
 c1:w.cell? ⟨b,off+1,none⟩=some (.int .i64 x1)
 c2:w.cell? ⟨b,off+2,none⟩=some (.int .i64 x2)
 c3:w.cell? ⟨b,off+3,none⟩=some (.int .i64 x3)
 c4:w.cell? ⟨b,off+4,none⟩=some (.int .i64 x4)
def Zg(r0 r1 r2 r3:Int)(b off len cap:Nat):Array Value:= #[r0,r1,r2,r3,.slice (some ⟨b,off,none⟩) len cap]
def lo(x1 x3 x4 r2 r3:Int):Int:=wrap64 (x1 - wrap64 (wrap64 (x3*r2)+wrap64 (x4*r3)))
def hi(x2 x3 x4 r2 r3:Int):Int:=wrap64 (x2+wrap64 (wrap64 (x3*r2)+wrap64 (x4*r3)))
structure Grew(w w':World)(os:List Obj):Prop where
 size:w'.heap.size=w.heap.size+os.length
 old:∀b,b<w.heap.size->w'.heap[b]? =w.heap[b]?
 new:∀i,i<os.length->w'.heap[w.heap.size+i]? =os[i]?
 tape:w'.tape=w.tape
 oss:w'.os=w.os
 output:w'.output=w.output
theorem Grew.nil(w:World):Grew w w []:=⟨rfl,λ_ _=>rfl,λi hi=>absurd hi (by simp),rfl,rfl,rfl⟩
theorem Grew.push{w w':World}{os:List Obj}(h:Grew w w' os)(o:Obj):Grew w (w'.alloc o) (os++[o]):=by
 have e:(w'.alloc o).heap=w'.heap.push o:=rfl;refine⟨by rw[e];simp[h.size];omega,λb hb=> ?_,λi hi=> ?_,h.tape,h.oss,h.output⟩
 ·rw[e,Array.getElem?_push,XA (by rw[h.size];omega)];exact h.old b hb
 ·rw[e,Array.getElem?_push];simp only[XK,YP,XM] at hi;by_cases hi':i=os.length
  ·subst hi';rw[YZ h.size.symm];simp
  ·rw[XA (by rw[h.size];omega),h.new i (by omega),List.getElem?_append_left (by omega)]
theorem Grew.cell{w w':World}{os:List Obj}(h:Grew w w' os){a:Addr}(ha:a.block<w.heap.size):w'.cell? a=w.cell? a:=by
 simp only[World.cell?,h.old _ ha]
def Z83(c:Array Value)(l h:Int)(x0 x1 x2 x3 x4:Int):List Obj:=[.cells c 132,.cells #[l,h] 49,.cells #[x0,x1,x2,x3,x4] 75]
theorem Z39(r0 r1 r2 r3 x0 x1 x2 x3 x4 k:Int)(b off len cap:Nat)(w:World)(hk:0<=k)(hk':k<len)(hb:b<w.heap.size)(hs:ShotAt w b (off+k.toNat*5) x0 x1 x2 x3 x4):
 Calls gp 66 #[.agg (Zg r0 r1 r2 r3 b off len cap),k] w λe w'=>
  e= .returned (.agg #[.int .i64 (lo x1 x3 x4 r2 r3),.int .i64 (hi x2 x3 x4 r2 r3)])/\Grew w w' (Z83 (Zg r0 r1 r2 r3 b off len cap) (lo x1 x3 x4 r2 r3) (hi x2 x3 x4 r2 r3) x0 x1 x2 x3 x4):=by
 obtain⟨h0,h1,h2,h3,h4⟩:=hs;simp only[Zg,lo,hi,Z83];go_enter func66,ntmps66;have B9:b<w.heap.size+1:=by omega
 have hp:∀(v:World)(o:Obj)(off':Nat),b<v.heap.size->(v.alloc o).cell? ⟨b,off',none⟩=v.cell? ⟨b,off',none⟩:=λv o off' h=>World.cell?_alloc_lt _ _ _ h
 go_wp2;refine VE ((Z07 rfl _ _ _).trans ?_) rfl ⟨rfl,(((Grew.nil w).push _).push _).push _⟩;simp[go_sem]
theorem Z09(n l h:Int)(w:World):Calls gp 65 #[n,l,h] w λe w'=>e= .returned (.bool (decide (l<=n/\n<=h)))/\w'=w:=by
 go_enter func65,ntmps65;go_wp2;all_goals (go_ret;simp;omega)
theorem Z0M(n:Int)(w:World):Calls gp 113 #[n] w λe w'=>e= .returned (.bool (decide (0<=n/\n<=90)))/\w'=w:=by
 go_enter func113,ntmps113;go_wp2_with (go_at_call 65;refine(Z09 _ _ _ _).mono ?_;rintro e w2 ⟨rfl,rfl⟩);all_goals (go_ret;simp)
end
section
open Go Go.Nk Go.RowKit
theorem Grew.drew{w w':World}{os:List Obj}(h:Grew w w' os):Grew w w'.drew os:=⟨h.size,h.old,h.new,h.tape,h.oss,h.output⟩
theorem Grew.cellNew{os:List Obj}(h:Grew w w' os)(j:Nat){C:Array Value}{e:TypeId}{f:Nat×Nat}(hj:os[j]? =some (.cells C e f))(i:Nat):w'.cell? ⟨w.heap.size+j,i,none⟩=C[i]? :=by
 have:=h.new j (YI.1 hj).1;rw[hj] at this;simp[World.cell?,this]
theorem Grew.thaw{os:List Obj}(h:Grew w w' os)(j:Nat){C:Array Value}{e:TypeId}(hj:os[j]? =some (.cells C e))(i:Nat):w'.frozen? ⟨w.heap.size+j,i,none⟩=false:=by
 have:=h.new j (YI.1 hj).1;rw[hj] at this;simp[World.frozen?,this]
theorem Grew.setCell{w w':World}{os:List Obj}(h:Grew w w' os)(j:Nat){C:Array Value}{e:TypeId}(hj:os[j]? =some (.cells C e))(i:Nat)(v:Value):Grew w (w'.setCell ⟨w.heap.size+j,i,none⟩ v) (os.set j (.cells (C.setIfInBounds i v) e)):=by
 have A3:=(YI.1 hj).1;have hn:=h.new j A3;rw[hj] at hn;refine⟨by simp[World.setCell,h.size],λb hb=> ?_,λi' hi'=> ?_,h.tape,h.oss,h.output⟩
 ·simp only[World.setCell,Array.getElem?_modify];rw[XA (by omega)];exact h.old b hb
 ·simp only[List.length_set] at hi';simp only[World.setCell,Array.getElem?_modify];by_cases e:j=i'
  ·subst e;rw[YZ rfl,hn,List.getElem?_set_self A3];rfl
  ·rw[XA (by omega),h.new i' hi',List.getElem?_set_ne e]
def upI(l r:Int):Nat->Int
 |0=>l
 |n+1=>wrap64 (upI l r n+r)
def dnI(l r:Int):Nat->Int
 |0=>l
 |n+1=>wrap64 (dnI l r n - r)
def atC(l h r0 r1:Int)(c d:Nat):Int×Int:=if c<=d then(upI l r0 (d - c),upI h r1 (d - c)) else(dnI l r1 (c - d),dnI h r0 (c - d))
def part(l h r0 r1:Int)(c a d:Nat):Array Value:=((List.range 182).map λi=>Value.int .i64 (if a<=i / 2/\i / 2<d then(if i % 2=0 then(atC l h r0 r1 c (i / 2)).1 else(atC l h r0 r1 c (i / 2)).2) else 0)).toArray
section
variable (l h r0 r1:Int)(c a d:Nat)
theorem part_size:(part l h r0 r1 c a d).size=182:=by simp[part]
theorem part_get{i:Nat}(hi:i<182):(part l h r0 r1 c a d)[i]? =some (Value.int .i64 (if a<=i / 2/\i / 2<d then(if i % 2=0 then(atC l h r0 r1 c (i / 2)).1 else(atC l h r0 r1 c (i / 2)).2) else 0)):=by
 simp[part,List.getElem?_map,List.getElem?_range hi]
theorem Z1j(hj:j<=90)(h1:a<=j)(h2:j<d):(part l h r0 r1 c a d)[j*2]? =some (.int .i64 (atC l h r0 r1 c j).1):=by
 rw[part_get _ _ _ _ _ _ _ (by omega)];have e:j*2 / 2=j:=by omega
 have e2:j*2 % 2=0:=by omega
 rw[e,e2,YZ ⟨h1,h2⟩,YZ rfl]
theorem Z1R(hj:j<=90)(h1:a<=j)(h2:j<d):(part l h r0 r1 c a d)[j*2+1]? =some (.int .i64 (atC l h r0 r1 c j).2):=by
 rw[part_get _ _ _ _ _ _ _ (by omega)];have e:(j*2+1) / 2=j:=by omega
 have e2:(j*2+1) % 2=1:=by omega
 rw[e,e2,YZ ⟨h1,h2⟩,XA (by omega)]
theorem Z0Y(hj:j<=90)(h1:∀x,(a'<=x/\x<d')↔((a<=x/\x<d)\/x=j)):
 ((part l h r0 r1 c a d).setIfInBounds (j*2) (.int .i64 (atC l h r0 r1 c j).1)).setIfInBounds (j*2+1) (.int .i64 (atC l h r0 r1 c j).2)=part l h r0 r1 c a' d':=by
 apply Array.ext_getElem?;intro i;rcases XY i 182 with hi|hi
 ·rw[part_get _ _ _ _ _ _ _ hi,Array.getElem?_setIfInBounds,Array.getElem?_setIfInBounds];simp only[QJ,part_size];by_cases e:i / 2=j
  ·have h2:=(h1 j).2 (.inr rfl);rw[e,YZ h2];rcases Nat.mod_two_eq_zero_or_one i with h3|h3
   ·have e2:i=j*2:=(by omega);subst e2;rw[XA (by omega),YZ rfl,YZ hi,YZ h3]
   ·have e2:i=j*2+1:=(by omega);subst e2;rw[YZ rfl,YZ hi,XA (by omega)]
  ·rw[XA (by omega),XA (by omega),part_get _ _ _ _ _ _ _ hi];congr 2;have h2:=h1 (i / 2);by_cases h3:a<=i / 2/\i / 2<d
   ·rw[YZ h3,YZ (h2.2 (.inl h3))]
   ·rw[XA h3,XA (λh4=>(h2.1 h4).elim h3 e)]
 ·rw[Array.getElem?_eq_none (by simp[part_size];omega),Array.getElem?_eq_none (by simp[part_size];omega)]
end
def Z4I(cc:Array Value)(C:Array Value)(l h x0 x1 x2 x3 x4:Int):List Obj:=[.cells cc 132,.cells C 274,.cells cc 132,.cells #[l,h] 49,.cells #[x0,x1,x2,x3,x4] 75]
theorem zeros:(Tryz.zeroCells274)=part 0 0 0 0 0 0 0:=by kernel_rfl
theorem Grew.trans{w w' w'':World}{os os':List Obj}(h:Grew w w' os)(h':Grew w' w'' os'):Grew w w'' (os++os'):=by
 refine⟨by rw[h'.size,h.size,XK];omega,λb hb=>(h'.old b (by rw[h.size];omega)).trans (h.old b hb),λi hi=> ?_,h'.tape.trans h.tape,h'.oss.trans h.oss,h'.output.trans h.output⟩;rw[XK] at hi;rcases XY i os.length with h1|h1
 ·rw[List.getElem?_append_left h1,h'.old _ (by rw[h.size];omega),h.new i h1]
 ·rw[List.getElem?_append_right h1,<-h'.new (i - os.length) (by omega),h.size];congr 1;omega
theorem Z3w(l h r0 r1:Int)(c a:Nat):Tryz.zeroCells274=part l h r0 r1 c a a:=by
 rw[zeros];apply Array.ext_getElem?;intro i;rcases XY i 182 with hi|hi
 ·rw[part_get _ _ _ _ _ _ _ hi,part_get _ _ _ _ _ _ _ hi,XA (by omega),XA (by omega)]
 ·rw[Array.getElem?_eq_none (by simp[part_size];omega),Array.getElem?_eq_none (by simp[part_size];omega)]
theorem Z2q{i:Nat}(hi:i<182):Tryz.zeroCells274[i]? =some (.int .i64 0):=by
 rw[zeros,part_get _ _ _ _ _ _ _ hi,XA (by omega)]
theorem Z6q(r0 r1 r2 r3 x1 x2 x3 x4 k:Int)(c:Nat)(b off len cap:Nat)(w:World)(hk:0<=k)(hk':k<len)(hb:b<w.heap.size)(hat:c<=90)(hs:ShotAt w b (off+k.toNat*5) c x1 x2 x3 x4)(l h:Int)(hl:l=lo x1 x3 x4 r2 r3)(hh:h=hi x2 x3 x4 r2 r3):
 Calls prog 141 #[.agg (Zg r0 r1 r2 r3 b off len cap),k] w λe w'=>e= .returned (.pointer (some ⟨w.heap.size+1,0,none⟩))/\
  Grew w w' (Z4I (Zg r0 r1 r2 r3 b off len cap) (part l h r0 r1 c 0 91) l h c x1 x2 x3 x4):=by
 have h0:=hs.c0
 have hw:Calls prog 66 #[.agg (Zg r0 r1 r2 r3 b off len cap),k] ((w.alloc (.cells (Zg r0 r1 r2 r3 b off len cap) 132)).alloc (.cells Tryz.zeroCells274 274)) λe w'=>e= .returned (.agg #[l,h])/\
  Grew w w' (Z4I (Zg r0 r1 r2 r3 b off len cap) Tryz.zeroCells274 l h c x1 x2 x3 x4)/\w'.cell? ⟨w.heap.size+1,c*2,none⟩=some (.int .i64 0)/\w'.cell? ⟨w.heap.size+1,c*2+1,none⟩=some (.int .i64 0)/\
  w'.frozen? ⟨w.heap.size+1,c*2,none⟩=false/\w'.frozen? ⟨w.heap.size+1,c*2+1,none⟩=false:=by
  have hG:Grew w ((w.alloc (.cells (Zg r0 r1 r2 r3 b off len cap) 132)).alloc (.cells Tryz.zeroCells274 274)) _:=((Grew.nil w).push _).push _;subst hl;subst hh;refine(Z39 r0 r1 r2 r3 c x1 x2 x3 x4 k b off len cap _ hk hk' (by rw[hG.size];omega) ⟨?_,?_,?_,?_,?_⟩).mono ?_
  ·rw[hG.cell hb];exact hs.c0
  ·rw[hG.cell hb];exact hs.c1
  ·rw[hG.cell hb];exact hs.c2
  ·rw[hG.cell hb];exact hs.c3
  ·rw[hG.cell hb];exact hs.c4
  ·rintro e w' ⟨rfl,h2⟩;have h3:Grew w w' (Z4I (Zg r0 r1 r2 r3 b off len cap) Tryz.zeroCells274 (lo x1 x3 x4 r2 r3) (hi x2 x3 x4 r2 r3) c x1 x2 x3 x4):=hG.trans h2;exact⟨rfl,h3,(h3.cellNew 1 rfl _).trans (Z2q (by omega)),(h3.cellNew 1 rfl _).trans (Z2q (by omega)),h3.thaw 1 rfl _,h3.thaw 1 rfl _⟩
 simp only[Zg] at hw⊢;clear hs hl hh;go_enter func141,ntmps141;have B9:b<w.heap.size+1:=by omega
 have hp:∀(v:World)(o:Obj)(off':Nat),b<v.heap.size->(v.alloc o).cell? ⟨b,off',none⟩=v.cell? ⟨b,off',none⟩:=λv o off' h=>World.cell?_alloc_lt _ _ _ h
 go_wp2_with (
  go_at_call 66
  refine hw.mono ?_;rintro e w' ⟨rfl,hG,z0,z1,f0,f1⟩;clear hw hp B9 h0)
 have Er:=(hG.setCell 1 rfl (c*2) (.int .i64 l)).setCell 1 rfl (c*2+1) (.int .i64 h);have eP:((Tryz.zeroCells274).setIfInBounds (c*2) (.int .i64 l)).setIfInBounds (c*2+1) (.int .i64 h)=part l h r0 r1 c c (c+1):=by
  have:=Z0Y l h r0 r1 c c c (a':=c) (d':=c+1) (j:=c) hat (λx=>by omega);rw[<-Z3w] at this;rw[<-this];simp[atC,upI]
 replace Er:Grew w ((w'.setCell ⟨w.heap.size+1,c*2,none⟩ (.int .i64 l)).setCell ⟨w.heap.size+1,c*2+1,none⟩ (.int .i64 h)) (Z4I #[r0,r1,r2,r3,.slice (some ⟨b,off,none⟩) len cap] (part l h r0 r1 c c (c+1)) l h c x1 x2 x3 x4):=by rw[<-eP];exact Er
 generalize (w'.setCell ⟨w.heap.size+1,c*2,none⟩ (.int .i64 l)).setCell ⟨w.heap.size+1,c*2+1,none⟩ (.int .i64 h)=w2 at Er⊢;clear hG z0 z1 f0 f1 eP
 go_loopw [7] (λv wr=>∃e:Nat,c<=e/\e<=90/\v= .int .i64 (e+1)/\Grew w wr (Z4I #[r0,r1,r2,r3,.slice (some ⟨b,off,none⟩) len cap] (part l h r0 r1 c c (e+1)) l h c x1 x2 x3 x4))
  (λv _=>91 - (intOf v).toNat)
 case atStart=>exact⟨c,XB _,hat,rfl,Er⟩
 case round=>
  obtain⟨e,Ld,Em,rfl,Ba⟩:=hrel;clear Er
  go_wp2_with (
   go_at_call 113
   refine(Z0M _ _).mono ?_;rintro e' wr' ⟨rfl,rfl⟩)
  ·have A3:e+1<=90:=by omega
   have g0:wr'.cell? ⟨w.heap.size+1,e*2,none⟩=some (.int .i64 (atC l h r0 r1 c e).1):=(Ba.cellNew 1 rfl _).trans (Z1j _ _ _ _ _ _ _ (by omega) Ld (by omega));have g1:wr'.cell? ⟨w.heap.size+1,e*2+1,none⟩=some (.int .i64 (atC l h r0 r1 c e).2):=(Ba.cellNew 1 rfl _).trans (Z1R _ _ _ _ _ _ _ (by omega) Ld (by omega));have g2:wr'.cell? ⟨w.heap.size,0,none⟩=some (.int .i64 r0):=Ba.cellNew 0 rfl _;have g3:wr'.cell? ⟨w.heap.size,1,none⟩=some (.int .i64 r1):=Ba.cellNew 0 rfl _;have g4:wr'.cell? ⟨w.heap.size+1,(e+1)*2,none⟩=some (.int .i64 0):=(Ba.cellNew 1 rfl _).trans ((part_get _ _ _ _ _ _ _ (by omega)).trans (by rw[XA (by omega)]));have g5:wr'.cell? ⟨w.heap.size+1,(e+1)*2+1,none⟩=some (.int .i64 0):=(Ba.cellNew 1 rfl _).trans ((part_get _ _ _ _ _ _ _ (by omega)).trans (by rw[XA (by omega)]));have g6:wr'.frozen? ⟨w.heap.size+1,(e+1)*2,none⟩=false:=Ba.thaw 1 rfl _;have g7:wr'.frozen? ⟨w.heap.size+1,(e+1)*2+1,none⟩=false:=Ba.thaw 1 rfl _
   go_region
   all_goals go_wp2
   refine⟨⟨e+1,by omega,A3,by push_cast;rfl,?_⟩,by simp[intOf];omega⟩;have Hz:=((Ba.setCell 1 rfl ((e+1)*2) (.int .i64 (wrap64 ((atC l h r0 r1 c e).1+r0)))).setCell 1 rfl ((e+1)*2+1) (.int .i64 (wrap64 ((atC l h r0 r1 c e).2+r1)))).drew;have eA:atC l h r0 r1 c (e+1)=(wrap64 ((atC l h r0 r1 c e).1+r0),wrap64 ((atC l h r0 r1 c e).2+r1)):=by
    have e1:e+1 - c=(e - c)+1:=(by omega);simp only[atC,YZ Ld,YZ (show c<=e+1 by omega),e1,upI]
   have eP:=Z0Y l h r0 r1 c c (e+1) (a':=c) (d':=e+1+1) (j:=e+1) A3 (λx=>by omega);rw[eA] at eP;rw[<-eP];exact Hz
  ·have he:e=90:=by omega
   subst he;have Nr:Grew w wr' (Z4I #[r0,r1,r2,r3,.slice (some ⟨b,off,none⟩) len cap] (part l h r0 r1 c c 91) l h c x1 x2 x3 x4):=Ba;clear Ba
   go_loopw [8] (λv wr=>∃f:Nat,f<=c/\v= .int .i64 ((f:Int) - 1)/\Grew w wr (Z4I #[r0,r1,r2,r3,.slice (some ⟨b,off,none⟩) len cap] (part l h r0 r1 c f 91) l h c x1 x2 x3 x4))
    (λv _=>(intOf v+1).toNat)
   case atStart=>exact⟨c,XB _,rfl,Nr⟩
   case round=>
    obtain⟨f,hf,rfl,Ba⟩:=hrel;clear Nr;rcases f with _|g
    ·go_wp2_with (
      go_at_call 113
      refine(Z0M _ _).mono ?_;rintro e' wr2 ⟨rfl,rfl⟩)
     go_ret;exact⟨rfl,Ba⟩
    ·have ev:((g+1:Nat):Int) - 1=g:=(by omega);rw[ev];have g0:wr.cell? ⟨w.heap.size+1,(g+1)*2,none⟩=some (.int .i64 (atC l h r0 r1 c (g+1)).1):=(Ba.cellNew 1 rfl _).trans (Z1j _ _ _ _ _ _ _ (by omega) (by omega) (by omega));have g1:wr.cell? ⟨w.heap.size+1,(g+1)*2+1,none⟩=some (.int .i64 (atC l h r0 r1 c (g+1)).2):=(Ba.cellNew 1 rfl _).trans (Z1R _ _ _ _ _ _ _ (by omega) (by omega) (by omega));have g2:wr.cell? ⟨w.heap.size,0,none⟩=some (.int .i64 r0):=Ba.cellNew 0 rfl _;have g3:wr.cell? ⟨w.heap.size,1,none⟩=some (.int .i64 r1):=Ba.cellNew 0 rfl _;have g4:wr.cell? ⟨w.heap.size+1,g*2,none⟩=some (.int .i64 0):=(Ba.cellNew 1 rfl _).trans ((part_get _ _ _ _ _ _ _ (by omega)).trans (by rw[XA (by omega)]));have g5:wr.cell? ⟨w.heap.size+1,g*2+1,none⟩=some (.int .i64 0):=(Ba.cellNew 1 rfl _).trans ((part_get _ _ _ _ _ _ _ (by omega)).trans (by rw[XA (by omega)]));have g6:wr.frozen? ⟨w.heap.size+1,g*2,none⟩=false:=Ba.thaw 1 rfl _;have g7:wr.frozen? ⟨w.heap.size+1,g*2+1,none⟩=false:=Ba.thaw 1 rfl _
     go_wp2_with (
      go_at_call 113
      refine(Z0M _ _).mono ?_;rintro e' wr2 ⟨rfl,rfl⟩)
     go_region
     all_goals go_wp2
     refine⟨?_,?measure⟩;iterate 28 apply Exists.intro
     refine⟨?rel,rfl⟩
     case rel=>
      refine⟨g,by omega,rfl,?_⟩;have Hz:=((Ba.setCell 1 rfl (g*2) (.int .i64 (wrap64 ((atC l h r0 r1 c (g+1)).1 - r1)))).setCell 1 rfl (g*2+1) (.int .i64 (wrap64 ((atC l h r0 r1 c (g+1)).2 - r0)))).drew;have eA:atC l h r0 r1 c g=(wrap64 ((atC l h r0 r1 c (g+1)).1 - r1),wrap64 ((atC l h r0 r1 c (g+1)).2 - r0)):=by
       have e1:c - g=(c - (g+1))+1:=(by omega);by_cases h1:c<=g+1
       ·have e2:c=g+1:=(by omega);simp only[atC,YZ h1,XA (show¬c<=g by omega),e1,dnI];simp[e2,dnI,upI]
       ·simp only[atC,XA h1,XA (show¬c<=g by omega),e1,dnI]
      have eP:=Z0Y l h r0 r1 c (g+1) 91 (a':=g) (d':=91) (j:=g) (by omega) (λx=>by omega);rw[eA] at eP;rw[<-eP];exact Hz
     case measure=>simp[intOf]
theorem run_asAgg(cs:Array Value)(w:World):(asAgg (.agg cs)).run prog w= .ok cs w:=rfl
@[simp] theorem f96 (a b c d e:Value) (w:World):(Instr.field 132 (.agg #[a,b,c,d,e]) 0).run prog w= .ok (.agg #[a,b,c,d,e]) w:=by
  unfold Instr.field Go.part;simp[go_sem,run_asAgg]
@[simp] theorem f49_0 (a b c d e:Value) (w:World):(Instr.field 31 (.agg #[a,b,c,d,e]) 0).run prog w= .ok (.agg #[a,b,c,d]) w:=by
  unfold Instr.field Go.part;simp[go_sem,run_asAgg]
@[simp] theorem f49_1 (a b c d e:Value) (w:World):(Instr.field 31 (.agg #[a,b,c,d,e]) 1).run prog w= .ok e w:=by
  unfold Instr.field Go.part;simp[go_sem,run_asAgg]
@[simp] theorem f46_0 (a b c d:Value) (w:World):(Instr.field 28 (.agg #[a,b,c,d]) 0).run prog w= .ok a w:=by
  unfold Instr.field Go.part;simp[go_sem,run_asAgg]
@[simp] theorem f46_1 (a b c d:Value) (w:World):(Instr.field 28 (.agg #[a,b,c,d]) 1).run prog w= .ok b w:=by
  unfold Instr.field Go.part;simp[go_sem,run_asAgg]
@[simp] theorem f46_2 (a b c d:Value) (w:World):(Instr.field 28 (.agg #[a,b,c,d]) 2).run prog w= .ok c w:=by
  unfold Instr.field Go.part;simp[go_sem,run_asAgg]
@[simp] theorem f46_3 (a b c d:Value) (w:World):(Instr.field 28 (.agg #[a,b,c,d]) 3).run prog w= .ok d w:=by
  unfold Instr.field Go.part;simp[go_sem,run_asAgg]
structure Sh where
 c:Nat
 m:Int
 M:Int
 wi:Int
 li:Int
def shL(r2 r3:Int)(s:Sh):Int:=lo s.m s.wi s.li r2 r3
def shH(r2 r3:Int)(s:Sh):Int:=hi s.M s.wi s.li r2 r3
def Shots(w:World)(base:Option Addr)(S:List Sh):Prop:=∀(i:Nat)(s:Sh),S[i]? =some s->∃b off,base=some ⟨b,off,none⟩/\b<w.heap.size/\s.c<=90/\ShotAt w b (off+i*5) s.c s.m s.M s.wi s.li
def Zh(r0 r1 r2 r3:Int)(base:Option Addr)(len cap:Nat):Array Value:= #[r0,r1,r2,r3,.slice base len cap]
def shO(cc:Array Value)(r0 r1 r2 r3:Int)(s:Sh):List Obj:=Z4I cc (part (shL r2 r3 s) (shH r2 r3 s) r0 r1 s.c 0 91) (shL r2 r3 s) (shH r2 r3 s) s.c s.m s.M s.wi s.li
def ZH(B n i:Nat):Array Value:=((List.range n).map λj=>if j<i then Value.pointer (some ⟨B+1+5*j+1,0,none⟩) else Value.pointer none).toArray
def kO(cc:Array Value)(r0 r1 r2 r3:Int)(S:List Sh)(B i:Nat):List Obj:=Obj.cells (ZH B S.length i) 188::(S.take i).flatMap (shO cc r0 r1 r2 r3)
theorem Z0l(B n i:Nat):(ZH B n i).size=n:=by simp[ZH]
theorem Z19{i:Nat}(hj:j<n):(ZH B n i)[j]? =some (if j<i then Value.pointer (some ⟨B+1+5*j+1,0,none⟩) else Value.pointer none):=by
 simp[ZH,List.getElem?_map,List.getElem?_range hj]
theorem Zbg{i:Nat}(hi:i<n):(ZH B n i).setIfInBounds i (.pointer (some ⟨B+1+5*i+1,0,none⟩))=ZH B n (i+1):=by
 apply Array.ext_getElem?;intro j;rcases XY j n with hj|hj
 ·rw[Array.getElem?_setIfInBounds,Z19 hj,Z19 hj,Z0l];by_cases e:i=j
  ·subst e;rw[YZ rfl,YZ hi,YZ (by omega)]
  ·rw[XA e];congr 1;by_cases h1:j<i
   ·rw[YZ h1,YZ (by omega)]
   ·rw[XA h1,XA (by omega)]
 ·rw[Array.getElem?_eq_none (by simp[Z0l];omega),Array.getElem?_eq_none (by simp[Z0l];omega)]
theorem Z2r(B n:Nat):madeCells (Value.pointer none).cells (n*1)=ZH B n 0:=by
 apply Array.ext_getElem?;intro j;rw[Nat.mul_one];rcases XY j n with hj|hj
 ·rw[Z19 hj,XA (by omega)];simp[madeCells,Value.cells,hj,Nat.mod_one]
 ·rw[Array.getElem?_eq_none (by simp[madeCells];omega),Array.getElem?_eq_none (by simp[Z0l];omega)]
theorem run_mk(n:Nat)(hn:n<=8)(w:World):(Instr.makeSlice 134 (.int .i64 n) (.int .i64 n)).run prog w= .ok (.slice (some ⟨w.heap.size,0,none⟩) n n) (w.alloc (.cells (ZH w.heap.size n 0) 188)):=by
 have h8:Tryz.t188.bytes=8:=by kernel_rfl
 have h1:Tryz.t188.size=1:=by kernel_rfl
 have hz:Tryz.t188.zero=some (.pointer none):=by kernel_rfl
 have hu:prog.underlying 134=some (.slice 188):=(underlying_eq 134).trans Tryz.underlying134;have hi:prog.info? 188=some Tryz.t188:=by kernel_rfl
 have:=run_makeSlice (P:=prog) w 134 188 Tryz.t188 (.pointer none) hu hi hz .i64 .i64 n n (by omega) (by omega) (by rw[h1];omega) (by rw[h8];omega) (by omega);rw[this,h1];simp only[UF];rw[Z2r w.heap.size n]
theorem Z0Z(cc:Array Value)(r0 r1 r2 r3:Int)(S:List Sh)(B i:Nat)(hi:i<=S.length):(kO cc r0 r1 r2 r3 S B i).length=1+5*i:=by
 simp only[kO,YP,List.length_flatMap];have:(List.map (λa=>(shO cc r0 r1 r2 r3 a).length) (S.take i))=List.replicate i 5:=by
  rw[List.eq_replicate_iff];refine⟨by simp;omega,λx hx=> ?_⟩;obtain⟨a,_,rfl⟩:=VD.1 hx;rfl
 rw[this];simp;omega
theorem ZcR(cc:Array Value)(r0 r1 r2 r3:Int)(S:List Sh)(B i:Nat)(s:Sh)(hs:S[i]? =some s):(kO cc r0 r1 r2 r3 S B i++shO cc r0 r1 r2 r3 s).set 0 (.cells (ZH B S.length (i+1)) 188)=kO cc r0 r1 r2 r3 S B (i+1):=by
 have A3:=(YI.1 hs).1;have e:S.take (i+1)=S.take i++[s]:=by rw[TG,hs];rfl
 simp only[kO,e,List.flatMap_append,YK,VU,UE,List.flatMap_nil,UQ]
theorem curves_any(r0 r1 r2 r3:Int)(base:Option Addr)(cap:Nat)(w:World)(S:List Sh)(n:Nat)(A1:S.length=n)(hn:n<=8)(hS:Shots w base S):
 Calls prog 114 #[.agg (Zh r0 r1 r2 r3 base n cap)] w λe w'=>e= .returned (.slice (some ⟨w.heap.size,0,none⟩) n n)/\
  Grew w w' (kO (Zh r0 r1 r2 r3 base n cap) r0 r1 r2 r3 S w.heap.size n):=by
 simp only[Zh];go_enter func114,ntmps114;simp only[kBody,kCheck,kBuild,kRule,kShot,kNext,kTest,kMake,kOne,op];go_wp2;rw[show decide ((n:Int)<=8)=true from XX (by omega)];go_loopw [12] (λv wr=>∃i:Nat,i<=n/\v= .int .i64 i/\wr=w) (λv _=>n - (intOf v).toNat)
 case atStart=>exact⟨0,XS _,rfl,rfl⟩
 case round=>
  obtain⟨i,hi,rfl,Ni⟩:=hrel;obtain rfl:=Ni.symm;clear Ni;by_cases Ao:i=n
  ·subst Ao;have hmk:=run_mk i hn w;go_wp2;have R3:Grew w (w.alloc (.cells (ZH w.heap.size i 0) 188)) (kO #[r0,r1,r2,r3,.slice base i cap] r0 r1 r2 r3 S w.heap.size 0):=by
    have:=(Grew.nil w).push (.cells (ZH w.heap.size i 0) 188);simpa[kO,A1] using this
   clear hmk;generalize w.alloc (.cells (ZH w.heap.size i 0) 188)=w1 at R3⊢;go_loopw [12] (λv wx=>∃j:Nat,j<=i/\v= .int .i64 j/\Grew w wx (kO #[r0,r1,r2,r3,.slice base i cap] r0 r1 r2 r3 S w.heap.size j)) (λv _=>i - (intOf v).toNat)
   case atStart=>exact⟨0,XS _,rfl,R3⟩
   case round=>
    obtain⟨j,hj,rfl,Ba⟩:=hrel;clear R3;by_cases Ay:j=i
    ·subst Ay;go_wp2;go_ret;exact⟨rfl,Ba⟩
    ·have A3:j<i:=(by omega);obtain⟨s,hs⟩:∃s,S[j]? =some s:=⟨_,YH (by omega)⟩;obtain⟨b,off,rfl,hb,hc,Bz⟩:=hS j s hs
     have Ci:Calls prog 141 #[.agg #[r0,r1,r2,r3,.slice (some ⟨b,off,none⟩) i cap],j] wr λe w2=>e= .returned (.pointer (some ⟨w.heap.size+1+5*j+1,0,none⟩))/\
      Grew w w2 (kO #[r0,r1,r2,r3,.slice (some ⟨b,off,none⟩) i cap] r0 r1 r2 r3 S w.heap.size j++shO #[r0,r1,r2,r3,.slice (some ⟨b,off,none⟩) i cap] r0 r1 r2 r3 s)/\w2.cell? ⟨w.heap.size,j,none⟩=some (.pointer none)/\w2.frozen? ⟨w.heap.size,j,none⟩=false:=by
      have B1:wr.heap.size=w.heap.size+(1+5*j):=(by rw[Ba.size,Z0Z _ _ _ _ _ _ _ _ (by omega)]);refine(Z6q r0 r1 r2 r3 s.m s.M s.wi s.li j s.c b off i cap wr (by omega) (by omega) (by omega) hc ?_ _ _ rfl rfl).mono ?_
      ·simp only[UF];exact⟨(Ba.cell hb).trans Bz.c0,(Ba.cell hb).trans Bz.c1,(Ba.cell hb).trans Bz.c2,(Ba.cell hb).trans Bz.c3,(Ba.cell hb).trans Bz.c4⟩
      ·rintro e w2 ⟨rfl,hG⟩;have Hz:Grew w w2 (kO #[r0,r1,r2,r3,.slice (some ⟨b,off,none⟩) i cap] r0 r1 r2 r3 S w.heap.size j++shO #[r0,r1,r2,r3,.slice (some ⟨b,off,none⟩) i cap] r0 r1 r2 r3 s):=Ba.trans hG;refine⟨?_,Hz,(Hz.cellNew 0 rfl j).trans ?_,Hz.thaw 0 rfl j⟩
       ·rw[B1];congr 4;omega
       ·rw[A1,Z19 A3,XA (by omega)]
     clear Bz hc
     go_wp2_with (
      go_at_call 141
      refine Ci.mono ?_;rintro e w2 ⟨rfl,Hz,z,f⟩;clear Ci Ba)
     refine⟨⟨j+1,by omega,by push_cast;rfl,?_⟩,by simp[intOf];omega⟩
     ·skip
      have Nr:=Hz.setCell 0 rfl j (.pointer (some ⟨w.heap.size+1+5*j+1,0,none⟩));have Nt:Grew w (w2.setCell ⟨w.heap.size,j,none⟩ (.pointer (some ⟨w.heap.size+1+5*j+1,0,none⟩))) ((kO #[r0,r1,r2,r3,.slice (some ⟨b,off,none⟩) i cap] r0 r1 r2 r3 S w.heap.size j++shO #[r0,r1,r2,r3,.slice (some ⟨b,off,none⟩) i cap] r0 r1 r2 r3 s).set 0 (.cells ((ZH w.heap.size S.length j).setIfInBounds j (.pointer (some ⟨w.heap.size+1+5*j+1,0,none⟩))) 188)):=Nr;rw[Zbg (by omega),ZcR _ _ _ _ _ _ _ _ _ hs] at Nt;exact Nt
  ·have A3:i<n:=by omega
   obtain⟨s,hs⟩:∃s,S[i]? =some s:=⟨_,YH (by omega)⟩;obtain⟨b,off,rfl,hb,hc,h0,h1,h2,h3,h4⟩:=hS i s hs;go_wp2;refine⟨⟨i+1,by omega,by push_cast;rfl,trivial⟩,by simp[intOf];omega⟩
end
end Go.Proofs.Tryq
section
namespace Go.Proofs.Tryq
open Go Go.Nk Go.RowKit
structure Ext(w w':World):Prop where
 size:w.heap.size<=w'.heap.size
 old:∀b,b<w.heap.size->w'.heap[b]? =w.heap[b]?
 tape:w'.tape=w.tape
 os:w'.os=w.os
 output:w'.output=w.output
namespace Ext
theorem rfl'(w:World):Ext w w:=⟨XB _,λ_ _=>rfl,rfl,rfl,rfl⟩
theorem trans(h:Ext w w')(h':Ext w' w''):Ext w w'':=⟨XD h.size h'.size,λb hb=>(h'.old b (YS hb h.size)).trans (h.old b hb),h'.tape.trans h.tape,h'.os.trans h.os,h'.output.trans h.output⟩
theorem alloc(h:Ext w w')(o:Obj):Ext w (w'.alloc o):=by
 have e:(w'.alloc o).heap=w'.heap.push o:=rfl;exact⟨by rw[e];have:=h.size;simp;omega,λb hb=>by rw[e,Array.getElem?_push,XA (by have:=h.size;omega)];exact h.old b hb,h.tape,h.os,h.output⟩
theorem setCell(h:Ext w w')(a:Addr)(v:Value)(ha:w.heap.size<=a.block):Ext w (w'.setCell a v):=by
 have hA:=VI w' a v;exact⟨by rw[hA.size];exact h.size,λb hb=>(hA.block b (by omega)).trans (h.old b hb),hA.tape.trans h.tape,hA.os.trans h.os,hA.output.trans h.output⟩
theorem drew(h:Ext w w'):Ext w w'.drew:=⟨h.size,h.old,h.tape,h.os,h.output⟩
theorem cell(h:Ext w w'){a:Addr}(ha:a.block<w.heap.size):w'.cell? a=w.cell? a:=by simp only[World.cell?,h.old _ ha]
theorem frozen(h:Ext w w'){a:Addr}(ha:a.block<w.heap.size):w'.frozen? a=w.frozen? a:=by simp only[World.frozen?,h.old _ ha]
theorem lt(h:Ext w w'){b:Nat}(hb:b<w.heap.size):b<w'.heap.size:=YS hb h.size
theorem get(h:Ext w w'){b:Nat}{o:Obj}(hb:w.heap[b]? =some o):w'.heap[b]? =some o:=(h.old b (YF.1 hb).1).trans hb
theorem cellS(h:Ext w w'){a:Addr}{v:Value}(hc:w.cell? a=some v):w'.cell? a=some v:=by
 refine(h.cell ?_).trans hc;unfold World.cell? at hc;split at hc
 ·rename_i hh;exact(YF.1 hh).1
 ·cases hc
end Ext
theorem Grew.ext{os:List Obj}(h:Grew w w' os):Ext w w':=⟨by rw[h.size];omega,h.old,h.tape,h.oss,h.output⟩
theorem Z0{c:Array Value}{f:Nat×Nat}(h:w.heap[b]? =some (.cells c e f))(i:Nat):w.cell? ⟨b,i,none⟩=c[i]? :=by simp[World.cell?,h]
theorem Z8{c:Array Value}(h:w.heap[b]? =some (.cells c e))(i:Nat):w.frozen? ⟨b,i,none⟩=false:=by simp[World.frozen?,h]
theorem Z5(h:w.heap[b]? =some o):b<w.heap.size:=(YF.1 h).1
theorem Z3(w:World)(o:Obj)(b:Nat):(w.alloc o).heap[b]? =if b=w.heap.size then some o else w.heap[b]? :=by
 have e:(w.alloc o).heap=w.heap.push o:=rfl;rw[e,Array.getElem?_push]
theorem Z2(w:World)(o:Obj):(w.alloc o).heap.size=w.heap.size+1:=by
 have e:(w.alloc o).heap=w.heap.push o:=rfl;rw[e];simp
theorem Zc(h:w.heap[b]? =some (.cells #[x,y] t)):w.cell? ⟨b,0,none⟩=some x/\w.cell? ⟨b,1,none⟩=some y/\w.frozen? ⟨b,0,none⟩=false/\w.frozen? ⟨b,1,none⟩=false:=
 ⟨Z0 h 0,Z0 h 1,Z8 h 0,Z8 h 1⟩
theorem Zb{i:Nat}{c:Array Value}(h:w.heap[b]? =some (.cells c t))(v:Value):(w.setCell ⟨b,i,none⟩ v).heap[b]? =some (.cells (c.setIfInBounds i v) t):=by
 rw[QK w b i c _ (0,0) _ h,setRow_heap w b _ _ _ _ h]
theorem set_ne{a:Addr}(h:b≠a.block)(v:Value):(w.setCell a v).heap[b]? =w.heap[b]? :=(VI w a v).block b h
theorem set_pair(h:w.heap[b]? =some (.cells #[x,y] t))(x' y':Value):((w.setCell ⟨b,0,none⟩ x').setCell ⟨b,1,none⟩ y').heap[b]? =some (.cells #[x',y'] t):=Zb (Zb h x') y'
structure Most(w:World):Prop where
 m0:w.cell? ⟨1,0,none⟩=some (.int .i64 (-1099511627776))
 m1:w.cell? ⟨1,1,none⟩=some (.int .i64 1099511627776)
theorem Most.ext(h:Most w)(e:Ext w w'):Most w':=⟨e.cellS h.m0,e.cellS h.m1⟩
structure Cv(w:World)(B n:Nat)(p:Nat->Nat)(C:Nat->Nat->Int×Int):Prop where
 ptr:∀i,i<n->w.cell? ⟨B,i,none⟩=some (.pointer (some ⟨p i,0,none⟩))
 lo:∀i d,i<n->d<=90->w.cell? ⟨p i,d*2,none⟩=some (.int .i64 (C i d).1)
 hi:∀i d,i<n->d<=90->w.cell? ⟨p i,d*2+1,none⟩=some (.int .i64 (C i d).2)
theorem Cv.ext{C:Nat->Nat->Int×Int}(h:Cv w B n p C)(e:Ext w w'):Cv w' B n p C:=⟨λi hi=>e.cellS (h.ptr i hi),λi d hi hd=>e.cellS (h.lo i d hi hd),λi d hi hd=>e.cellS (h.hi i d hi hd)⟩
end Go.Proofs.Tryq
end
namespace Go.Proofs.Tryq
section
open Go Go.Nk Go.RowKit
variable [Tw]
theorem Z1a(b:Bool)(f:Int)(w:World):Calls gp 64 #[.bool b,f] w λe w'=>e= .returned (.int .i64 (if b then f else 0))/\w'=w:=by
 go_enter fk Tryz.func64,Tryz.ntmps64;go_wp2;all_goals (go_ret;simp_all)
theorem Zpq(a b lo hi:Int)(w:World):Calls gp 119 #[.agg #[a,b],lo,hi] w λe w'=>e= .returned (.bool (decide (lo<=a/\a<=b/\b<=hi)))/\w'=w.alloc (.cells #[a,b] 49):=by
 go_enter fk Tryz.func119,Tryz.ntmps119;go_wp2
 all_goals
  go_ret;refine⟨?_,rfl⟩;rw[show∀x y:Value,Ending.returned x=Ending.returned y↔x=y from λx y=>by simp];simp only[Array.getD_eq_getD_getElem?,YC,YA,YB,VX];simp[*]
  try omega
theorem Z84(a b lo hi:Int)(w:World):Calls gp 119 #[.agg #[a,b],lo,hi] w λe w'=>e= .returned (.bool (decide (lo<=a/\a<=b/\b<=hi)))/\Ext w w':=
 (Zpq a b lo hi w).mono λe w' h=>⟨h.1,h.2▸(Ext.rfl' w).alloc _⟩
theorem Z5w(B n cap:Nat)(hn:n<=8)(fv:Nat->FuncId)(av cv:Nat->Array Value)(I:Nat->World->Prop)(J:World->Prop)(r:Nat->Int)(w:World)
 (Bc:∀i,i<n->∀w',I i w'->w'.cell? ⟨B,i,none⟩=some (.func (.func (fv i)) (av i) (cv i)))
 (G2:∀i,i<n->∀args w',(callFunc (fv i) args).run gp w'= .ok (.enter (fv i) args) w')
 (Ci:∀i,i<n->∀w',I i w'->Calls gp (fv i) (av i++cv i) w' λe w''=>e= .returned (.int .i64 (r i))/\(r i=0->I (i+1) w'')/\(r i≠0->J w''))
 (h0:I 0 w):Calls gp 61 #[.slice (some ⟨B,0,none⟩) n cap] w λe w'=>∃v,e= .returned (.int .i64 v)/\((v=0/\I n w'/\∀i,i<n->r i=0)\/(∃i,i<n/\r i≠0/\v=r i/\(∀j,j<i->r j=0)/\J w')):=by
 go_enter fk Tryz.func61,Tryz.ntmps61;go_wp2;go_loopw [8] (λv wr=>∃i:Nat,i<=n/\v= .int .i64 i/\I i wr/\∀j,j<i->r j=0) (λv _=>n - (intOf v).toNat)
 case atStart=>exact⟨0,XS _,rfl,h0,λj hj=>by omega⟩
 case round=>
  obtain⟨i,hi,rfl,hI,hz⟩:=hrel;by_cases Ao:i=n
  ·subst Ao;go_wp2;go_ret;exact⟨0,rfl,.inl ⟨rfl,hI,hz⟩⟩
  ·have A3:i<n:=by omega
   have hc:=Bc i A3 wr hI;have hen:=G2 i A3;have hca:=Ci i A3 wr hI;clear Bc G2 Ci;generalize fv i=f at hc hen hca
   go_wp2_with (
    first|(refine hca.mono ?_;rintro e w2 ⟨rfl,hI0,hJ⟩))
   ·rename_i A9;go_ret;simp at A9;exact⟨r i,rfl,.inr ⟨i,A3,A9,rfl,hz,hJ A9⟩⟩
   ·rename_i heq;simp at heq;refine⟨⟨i+1,by omega,by push_cast;rfl,hI0 heq,λj hj=> ?_⟩,by simp[intOf];omega⟩;rcases TD.1 hj with h|rfl
    ·exact hz j h
    ·exact heq
theorem Z7i(a b c d:Int)(w:World):Calls gp 72 #[.agg #[a,b],.agg #[c,d]] w λe w'=>e= .returned (.agg #[.int .i64 (max a c),.int .i64 (min b d)])/\Ext w w':=by
 go_enter fk Tryz.func72,Tryz.ntmps72;go_wp2
 all_goals
  refine VE (v:= .agg #[.int .i64 (max a c),.int .i64 (min b d)]) ((Z07 rfl _ _ _).trans ?_) rfl ⟨rfl,(((Ext.rfl' w).alloc _).alloc _).alloc _⟩;simp[go_sem];omega
def has(set:Int)(i:Nat):Bool:=bits .and .i64 (set / 2 ^ i) 1==1
def atF(C:Nat->Nat->Int×Int)(set:Int)(d:Nat):Nat->Int×Int
 |0=>(-1099511627776,1099511627776)
 |i+1=>if has set i then(max (atF C set d i).1 (C i d).1,min (atF C set d i).2 (C i d).2) else atF C set d i
theorem Z2Y(r0 r1 r2 r3:Int)(sl:Value)(B n d:Nat)(set:Int)(p:Nat->Nat)(C:Nat->Nat->Int×Int)(hn:n<=8)(hd:d<=90)(hs:0<=set/\set<256)(w:World)(hm:Most w)(hC:Cv w B n p C):
 Calls gp 69 #[.agg #[r0,r1,r2,r3,sl,.slice (some ⟨B,0,none⟩) n n],set,d] w λe w'=>
  e= .returned (.agg #[.int .i64 (atF C set d n).1,.int .i64 (atF C set d n).2])/\Ext w w':=by
 have hm':=hm;obtain⟨m0,m1⟩:=hm;have h1:1<w.heap.size:=by
  unfold World.cell? at m0;split at m0
  ·rename_i hh;exact Z5 hh
  ·cases m0
 have h11:1<w.heap.size+1:=by omega
 have hp:∀(v:World)(o:Obj)(off':Nat),1<v.heap.size->(v.alloc o).cell? ⟨1,off',none⟩=v.cell? ⟨1,off',none⟩:=λv o off' h=>World.cell?_alloc_lt _ _ _ h
 have Ww:(0:Int)<=(d:Int):=by omega
 have Pj:(d:Int)<91:=by omega
 go_enter fk Tryz.func69,Tryz.ntmps69;go_wp2;go_loopw [14] (λv wr=>∃i:Nat,i<=n/\v= .int .i64 i/\Ext w wr/\wr.heap[w.heap.size+1]? =some (.cells #[.int .i64 0,.int .i64 0] 49)/\wr.heap[w.heap.size+1+1]? =some (.cells #[.int .i64 (atF C set d i).1,.int .i64 (atF C set d i).2] 49)) (λv _=>n - (intOf v).toNat)
 case atStart=>
  refine⟨0,XS _,rfl,(((Ext.rfl' w).alloc _).alloc _).alloc _,?_,?_⟩
  ·simp only[Z3,Z2];rw[XA (by omega),YZ trivial]
  ·simp only[Z3,Z2];rw[YZ trivial];rfl
 case round=>
  obtain⟨i,hi,rfl,hE,ho,hx⟩:=hrel;have hC':=hC.ext hE;have B1:=hE.size;obtain⟨x0,x1,y0,y1⟩:=Zc hx;obtain⟨z0,z1,u0,u1⟩:=Zc ho;have hlx:=Z5 hx;clear hp m0 m1 h11;by_cases Ao:i=n
  ·subst Ao;go_wp2;refine VE (v:= .agg #[.int .i64 (atF C set d i).1,.int .i64 (atF C set d i).2]) ((Z07 rfl _ _ _).trans ?_) rfl ⟨rfl,(hE.setCell _ _ (by simp)).setCell _ _ (by simp)⟩;have hq:=Zc (set_pair ho (.int .i64 (atF C set d i).1) (.int .i64 (atF C set d i).2));simp[go_sem,hq.1,hq.2.1]
  ·have A3:i<n:=by omega
   have hpt:=hC'.ptr i A3;have Ip:=hC'.lo i d A3 hd;have hhi:=hC'.hi i d A3 hd;have R4:p i<wr.heap.size:=by
    unfold World.cell? at Ip;split at Ip
    ·rename_i hh;exact Z5 hh
    ·cases Ip
   go_wp2
   ·rename_i hbit
    go_region_with (
     first|(go_at_call 72;refine(Z7i _ _ _ _ _).mono ?_;rintro e w2 ⟨rfl,A4⟩;have Gn:=(Ext.rfl' wr).drew.trans A4;have Aw:=Zc (Gn.get hx);have If:=Zc (Gn.get ho);have x20:=Aw.1;have x21:=Aw.2.1;have y20:=Aw.2.2.1;have y21:=Aw.2.2.2;have hlo2:=Gn.cellS Ip;have hhi2:=Gn.cellS hhi;clear Aw If A4))
    all_goals
     go_wp2;have Ah:=hE.trans Gn;refine⟨⟨i+1,by omega,by push_cast;rfl,(Ah.setCell _ _ (by show w.heap.size<=w.heap.size+1+1;omega)).setCell _ _ (by show w.heap.size<=w.heap.size+1+1;omega),?_,?_⟩,by simp[intOf];omega⟩
     ·rw[set_ne (by simp),set_ne (by simp)];exact Gn.get ho
     ·rw[set_pair (Gn.get hx)];simp only[atF,has,hbit,XQ]
   ·rename_i hbit;refine⟨⟨i+1,by omega,by push_cast;rfl,hE,ho,?_⟩,by simp[intOf];omega⟩;rw[hx];simp only[atF,has,hbit,YR,XZ]
variable [Tw]
def Z22(C:Nat->Nat->Int×Int)(set:Int)(n:Nat)(k:Nat):Bool:=(List.range k).all λd=>decide ((atF C set d n).1<=(atF C set d n).2)
def Zz(C:Nat->Nat->Int×Int)(set:Int)(n:Nat):Bool:=Z22 C set n 91
theorem Z2b{C:Nat->Nat->Int×Int}{set:Int}:Z22 C set n (k+1)=(Z22 C set n k&&decide ((atF C set k n).1<=(atF C set k n).2)):=by
 simp[Z22,List.range_succ]
theorem Z5x{C:Nat->Nat->Int×Int}{set:Int}(h:Z22 C set n k=false)(Le:k<=m):Z22 C set n m=false:=by
 induction Le with
 |refl=>exact h
 |step _ ih=>rw[Z2b,ih];rfl
theorem Z7j(r0 r1 r2 r3:Int)(sl:Value)(B n:Nat)(set:Int)(p:Nat->Nat)(C:Nat->Nat->Int×Int)(hn:n<=8)(hs:0<=set/\set<256)(w:World)(hm:Most w)(hC:Cv w B n p C):
 Calls gp 111 #[.agg #[r0,r1,r2,r3,sl,.slice (some ⟨B,0,none⟩) n n],set] w λe w'=>
  e= .returned (.bool (Zz C set n))/\Ext w w':=by
 go_enter fk Tryz.func111,Tryz.ntmps111;go_wp2;have A1:=hn;go_loopw [7] (λv wr=>∃d:Nat,d<=91/\v= .int .i64 d/\Ext w wr/\wr.heap[w.heap.size]? =some (.cells #[r0,r1,r2,r3,sl,.slice (some ⟨B,0,none⟩) n n] 136)/\Z22 C set n d=true) (λv _=>91 - (intOf v).toNat)
 case atStart=>
  refine⟨0,XS _,rfl,(Ext.rfl' w).alloc _,?_,rfl⟩;rw[Z3,YZ rfl]
 case round=>
  obtain⟨d,hd,rfl,hE,D9,hf⟩:=hrel;have c0:=Z0 D9 0;have c1:=Z0 D9 1;have c2:=Z0 D9 2;have c3:=Z0 D9 3;have c4:=Z0 D9 4;have c5:=Z0 D9 5;simp only[YC,YA,YB] at c0 c1 c2 c3 c4 c5;by_cases Wx:d=91
  ·subst Wx;go_wp2;go_ret;exact⟨by rw[Zz,hf];rfl,hE⟩
  ·have A3:d<=90:=by omega
   have hat:=Z2Y r0 r1 r2 r3 sl B n d set p C hn A3 hs wr (hm.ext hE) (hC.ext hE)
   go_wp2_with (
    go_at_call 69
    refine hat.mono ?_;rintro e w2 ⟨rfl,A4⟩;have Ah:=hE.trans A4;have R5:=A4.get D9;clear hat c0 c1 c2 c3 c4 c5)
   ·rename_i Mc;go_ret;refine⟨?_,(Ah.alloc _)⟩;have h1:Z22 C set n (d+1)=false:=(by rw[Z2b,hf];simp at Mc⊢;omega);rw[Zz,Z5x h1 (by omega)];rfl
   ·rename_i Bl;refine⟨⟨d+1,by omega,by push_cast;rfl,Ah.alloc _,(by rw[Z3,XA (by have:=Z5 R5;omega)];exact R5),?_⟩,by simp[intOf];omega⟩;rw[Z2b,hf];simp at Bl⊢;omega
end
section
open Go Go.Nk Go.RowKit
theorem ZdV(f:Sh->List Obj)(hf:∀s,(f s).length=5):∀(S:List Sh)(k j:Nat),j<5->(S.flatMap f)[5*k+j]? =(S[k]?).bind λs=>(f s)[j]? :=by
 intro S
 induction S with
 |nil=>intro k j _;simp
 |cons s S ih=>
  intro k j hj;rw[UE];cases k with
  |zero=>
   rw[List.getElem?_append_left (by rw[hf];omega)];simp
  |succ k=>
   rw[List.getElem?_append_right (by rw[hf];omega),hf];rw[show 5*(k+1)+j - 5=5*k+j by omega,ih k j hj];simp
theorem Cv.set{C:Nat->Nat->Int×Int}(h:Cv w B n p C){a:Addr}(hB:B≠a.block)(hp:∀i,p i≠a.block)(v:Value):Cv (w.setCell a v) B n p C:=by
 have key:∀b i,b≠a.block->(w.setCell a v).cell? ⟨b,i,none⟩=w.cell? ⟨b,i,none⟩:=λb i hb=>by simp only[World.cell?,set_ne (w:=w) (a:=a) (b:=b) hb v]
 exact⟨λi hi=>(key _ _ hB).trans (h.ptr i hi),λi d hi hd=>(key _ _ (hp i)).trans (h.lo i d hi hd),λi d hi hd=>(key _ _ (hp i)).trans (h.hi i d hi hd)⟩
def cvS(r0 r1 r2 r3:Int)(S:List Sh)(i d:Nat):Int×Int:=match S[i]? with
 |some s=>atC (shL r2 r3 s) (shH r2 r3 s) r0 r1 s.c d
 |none=>(0,0)
theorem cv_of{r0 r1 r2 r3:Int}{S:List Sh}(A1:S.length=n)(h:Grew w w' (kO cc r0 r1 r2 r3 S w.heap.size n)):Cv w' w.heap.size n (λi=>w.heap.size+(1+5*i+1)) (cvS r0 r1 r2 r3 S):=by
 have hl:(kO cc r0 r1 r2 r3 S w.heap.size n).length=1+5*n:=Z0Z _ _ _ _ _ _ _ _ (by omega);have h0:w'.heap[w.heap.size]? =some (.cells (ZH w.heap.size n n) 188):=by
  have:=h.new 0 (by omega);rw[RV] at this;rw[this,<-A1];simp only[kO,YA]
 have hk:∀i,i<n->∃s,S[i]? =some s/\w'.heap[w.heap.size+(1+5*i+1)]? =some (.cells (part (shL r2 r3 s) (shH r2 r3 s) r0 r1 s.c 0 91) 274):=by
  intro i hi;obtain⟨s,hs⟩:∃s,S[i]? =some s:=⟨_,YH (by omega)⟩;refine⟨s,hs,?_⟩;rw[h.new _ (by omega),show 1+5*i+1=(5*i+1)+1 by omega];simp only[kO,YB];rw[<-A1,UT,ZdV _ (λ_=>rfl) S i 1 (by omega),hs];rfl
 refine⟨λi hi=> ?_,λi d hi hd=> ?_,λi d hi hd=> ?_⟩
 ·rw[Z0 h0,Z19 hi,YZ hi];congr 4;omega
 ·obtain⟨s,hs,hb⟩:=hk i hi;rw[Z0 hb,Z1j _ _ _ _ _ _ _ hd (by omega) (by omega)];simp only[cvS,hs]
 ·obtain⟨s,hs,hb⟩:=hk i hi;rw[Z0 hb,Z1R _ _ _ _ _ _ _ hd (by omega) (by omega)];simp only[cvS,hs]
theorem Z08(r0 r1 r2 r3:Int)(base:Option Addr)(n cap:Nat)(v:Value)(hn:n<=8)(w:World):
 Calls prog 70 #[.agg #[r0,r1,r2,r3,.slice base n cap,v]] w λe w'=>e= .returned (.int .i64 (2 ^ n - 1))/\Ext w w':=by
 have V4:(0:Int)<=(n:Int):=by omega
 have hn64:(n:Int)<64:=by omega
 go_enter fk Tryz.func70,Tryz.ntmps70;go_wp2;have e:wrap64 (wrap64 (2 ^ n) - 1)=2 ^ n - 1:=by
  obtain rfl|rfl|rfl|rfl|rfl|rfl|rfl|rfl|rfl:n=0\/n=1\/n=2\/n=3\/n=4\/n=5\/n=6\/n=7\/n=8:=by omega
  all_goals (unfold wrap64;rfl)
 rw[e];go_ret;exact⟨rfl,(Ext.rfl' w).alloc _⟩
theorem Shots.ext{base:Option Addr}{S:List Sh}(h:Shots w base S)(e:Ext w w'):Shots w' base S:=by
 intro i s hi;obtain⟨b,off,h1,h2,h3,h4⟩:=h i s hi;exact⟨b,off,h1,e.lt h2,h3,e.cellS h4.c0,e.cellS h4.c1,e.cellS h4.c2,e.cellS h4.c3,e.cellS h4.c4⟩
theorem Z2c(r0 r1 r2 r3:Int)(base:Option Addr)(cap:Nat)(w:World)(S:List Sh)(n:Nat)(A1:S.length=n)(hn:n<=8)(hS:Shots w base S):
 Calls prog 74 #[.agg (Zh r0 r1 r2 r3 base n cap)] w λe w'=>∃B p,e= .returned (.agg #[r0,r1,r2,r3,.slice base n cap,.slice (some ⟨B,0,none⟩) n n])/\Ext w w'/\Cv w' B n p (cvS r0 r1 r2 r3 S)/\w.heap.size<=B/\∀i,w.heap.size<=p i:=by
 have hc:=curves_any r0 r1 r2 r3 base cap;simp only[Zh] at hc⊢;go_enter fk Tryz.func74,Tryz.ntmps74;go_wp2
 have hE:Ext w ((w.alloc (Obj.cells #[Value.int IntKind.i64 r0,Value.int IntKind.i64 r1,Value.int IntKind.i64 r2,Value.int IntKind.i64 r3,Value.slice base n cap] 31)).alloc
  (Obj.cells #[Value.int IntKind.i64 0,Value.int IntKind.i64 0,Value.int IntKind.i64 0,Value.int IntKind.i64 0,Value.slice none 0 0,Value.slice none 0 0] 136)):=((Ext.rfl' w).alloc _).alloc _
 have hb:((w.alloc (Obj.cells #[Value.int IntKind.i64 r0,Value.int IntKind.i64 r1,Value.int IntKind.i64 r2,Value.int IntKind.i64 r3,Value.slice base n cap] 31)).alloc
  (Obj.cells #[Value.int IntKind.i64 0,Value.int IntKind.i64 0,Value.int IntKind.i64 0,Value.int IntKind.i64 0,Value.slice none 0 0,Value.slice none 0 0] 136)).heap[w.heap.size]? =some (Obj.cells #[Value.int IntKind.i64 r0,Value.int IntKind.i64 r1,Value.int IntKind.i64 r2,Value.int IntKind.i64 r3,Value.slice base n cap] 31):=by
  simp only[Z3,Z2];rw[XA (by omega),YZ trivial]
 have ho:((w.alloc (Obj.cells #[Value.int IntKind.i64 r0,Value.int IntKind.i64 r1,Value.int IntKind.i64 r2,Value.int IntKind.i64 r3,Value.slice base n cap] 31)).alloc
  (Obj.cells #[Value.int IntKind.i64 0,Value.int IntKind.i64 0,Value.int IntKind.i64 0,Value.int IntKind.i64 0,Value.slice none 0 0,Value.slice none 0 0] 136)).heap[w.heap.size+1]? =some (Obj.cells #[Value.int IntKind.i64 0,Value.int IntKind.i64 0,Value.int IntKind.i64 0,Value.int IntKind.i64 0,Value.slice none 0 0,Value.slice none 0 0] 136):=by
  simp only[Z3,Z2];rw[YZ trivial]
 generalize ((w.alloc (Obj.cells #[Value.int IntKind.i64 r0,Value.int IntKind.i64 r1,Value.int IntKind.i64 r2,Value.int IntKind.i64 r3,Value.slice base n cap] 31)).alloc
  (Obj.cells #[Value.int IntKind.i64 0,Value.int IntKind.i64 0,Value.int IntKind.i64 0,Value.int IntKind.i64 0,Value.slice none 0 0,Value.slice none 0 0] 136))=w2 at hE hb ho⊢
 have Ey:=hS.ext hE;have b0:=Z0 hb 0;have b1:=Z0 hb 1;have b2:=Z0 hb 2;have b3:=Z0 hb 3;have b4:=Z0 hb 4;simp only[YC,YA,YB] at b0 b1 b2 b3 b4
 go_region_with (
  first|(go_at_call 114;refine(hc _ S n A1 hn (Ey.ext (Ext.rfl' w2).drew)).mono ?_;rintro e w3 ⟨rfl,hG⟩;have Ah:=(Ext.rfl' w2).drew.trans hG.ext;have C2:=Ah.get hb;have Gp:=Ah.get ho;have q0:=Z0 C2 0;have q1:=Z0 C2 1;have q2:=Z0 C2 2;have q3:=Z0 C2 3;have q4:=Z0 C2 4;have o0:=Z0 Gp 0;have o1:=Z0 Gp 1;have o2:=Z0 Gp 2;have o3:=Z0 Gp 3;have o4:=Z0 Gp 4;have o5:=Z0 Gp 5;have z0:=Z8 Gp 0;have z1:=Z8 Gp 1;have z2:=Z8 Gp 2;have z3:=Z8 Gp 3;have z4:=Z8 Gp 4;have z5:=Z8 Gp 5;have hcv:=cv_of A1 hG;simp only[YC,YA,YB] at q0 q1 q2 q3 q4 o0 o1 o2 o3 o4 o5))
 all_goals
  go_wp2;have Gv:=Z5 ho;have g0:=Zb Gp (i:=0) (.int .i64 r0);have g1:=Zb g0 (i:=1) (.int .i64 r1);have g2:=Zb g1 (i:=2) (.int .i64 r2);have g3:=Zb g2 (i:=3) (.int .i64 r3);have g4:=Zb g3 (i:=4) (.slice base n cap);have g5:=Zb g4 (i:=5) (.slice (some ⟨w2.heap.size,0,none⟩) n n);have ge:=hE.trans Ah;have hh:w.heap.size<=w.heap.size+1:=by omega
  have A9:w2.drew.heap.size≠w.heap.size+1:=by show w2.heap.size≠_;omega
  have Gx:∀i,w2.drew.heap.size+(1+5*i+1)≠w.heap.size+1:=λi=>by show w2.heap.size+_≠_;omega
  refine VE (v:= .agg #[r0,r1,r2,r3,.slice base n cap,.slice (some ⟨w2.heap.size,0,none⟩) n n]) ((Z07 rfl _ _ _).trans ?_) rfl ⟨w2.heap.size,λi=>w2.heap.size+(1+5*i+1),rfl,(((((ge.setCell _ _ hh).setCell _ _ hh).setCell _ _ hh).setCell _ _ hh).setCell _ _ hh).setCell _ _ hh,(((((hcv.set A9 Gx _).set A9 Gx _).set A9 Gx _).set A9 Gx _).set A9 Gx _).set A9 Gx _,hE.size,λi=>XD hE.size (QN _ _)⟩;have s0:=Z0 g5 0;have s1:=Z0 g5 1;have s2:=Z0 g5 2;have s3:=Z0 g5 3;have s4:=Z0 g5 4;have s5:=Z0 g5 5;simp at s0 s1 s2 s3 s4 s5;simp[go_sem,s0,s1,s2,s3,s4,s5]
variable [Tw]
def okN(n hi:Int):Bool:=decide (0<=n/\n<=hi)
def Z9s(r0 r1 r2 r3:Int):Nat->Int
 |0=>r0
 |1=>r1
 |2=>r2
 |_=>r3
theorem f143(r0 r1 r2 r3:Int)(i:Nat)(hi:i<4)(w:World):(Instr.index 209 (.agg #[r0,r1,r2,r3]) (.int .i64 i)).run gp w= .ok (.int .i64 (Z9s r0 r1 r2 r3 i)) w:=by
 obtain rfl|rfl|rfl|rfl:i=0\/i=1\/i=2\/i=3:=by omega
 all_goals
  unfold Instr.index Go.part;simp[go_sem,run_asAgg,asIntOf,Z9s]
theorem Z10{a b:Int}(h:a=b):Ending.returned (.int .i64 a)=Ending.returned (.int .i64 b):=by rw[h]
def Z5y(r0 r1 r2 r3:Int):Int:=if okN r0 999&&okN r1 999&&okN r2 999&&okN r3 999&&decide (r0<=r1) then 0 else 1
theorem Zbh(r0 r1 r2 r3:Int)(base:Option Addr)(n cap:Nat)(w:World):Calls gp 82 #[.agg (Zh r0 r1 r2 r3 base n cap)] w λe w'=>e= .returned (.int .i64 (Z5y r0 r1 r2 r3))/\Ext w w':=by
 simp only[Zh];go_enter fk Tryz.func82,Tryz.ntmps82;go_wp2;go_loopw [18] (λv wr=>∃i:Nat,i<=4/\v= .int .i64 i/\wr.heap[w.heap.size+1]? =some (.cells #[r0,r1,r2,r3] 28)/\Ext w wr/\∀j,j<i->okN (Z9s r0 r1 r2 r3 j) 999=true) (λv _=>4 - (intOf v).toNat)
 case atStart=>
  refine⟨0,XS _,rfl,?_,((Ext.rfl' w).alloc _).alloc _,λj hj=>by omega⟩;simp only[Z3,Z2];rw[YZ trivial]
 case round=>
  obtain⟨i,hi,rfl,hr,hE,hz⟩:=hrel;have q0:=Z0 hr 0;have q1:=Z0 hr 1;simp only[YC,YA,YB] at q0 q1;by_cases Ao:i=4
  ·subst Ao;have h0:=hz 0 (by omega);have h1:=hz 1 (by omega);have h2:=hz 2 (by omega);have h3:=hz 3 (by omega);clear hz;simp only[Z9s] at h0 h1 h2 h3;go_wp2_with (first|(go_at_call 64;refine(Z1a _ _ _).mono ?_;rintro e w2 ⟨rfl,rfl⟩))
   all_goals
    go_ret;refine⟨?_,hE⟩;simp only[Z5y,h0,h1,h2,h3,TL,Bool.and_self];simp;omega
  ·have A3:i<4:=by omega
   have hix:=λw=>f143 r0 r1 r2 r3 i A3 w
   go_wp2_with (first|(go_at_call 65;refine(Z09 _ _ _ _).mono ?_;rintro e w2 ⟨rfl,rfl⟩))
   ·rename_i hb;go_ret;refine⟨Z10 (a:=1) ?_,hE⟩;simp at hb;rw[Z5y,XA];simp only[okN];simp;intro h0 h0' h1 h1' h2 h2' h3 h3';obtain rfl|rfl|rfl|rfl:i=0\/i=1\/i=2\/i=3:=(by omega);all_goals simp only[Z9s] at hb
    all_goals omega
   ·rename_i hb;simp at hb;refine⟨⟨i+1,by omega,by push_cast;rfl,hr,hE,?_⟩,by simp[intOf];omega⟩
    ·intro j hj;rcases TD.1 hj with h|rfl
     ·exact hz j h
     ·simp only[okN];simp;omega
structure Rs where
 a:Int
 m:Int
 M:Int
 wi:Int
 li:Int
def RawS(w:World)(base:Option Addr)(S:List Rs):Prop:=∀(i:Nat)(s:Rs),S[i]? =some s->∃b off,base=some ⟨b,off,none⟩/\b<w.heap.size/\ShotAt w b (off+i*5) s.a s.m s.M s.wi s.li
theorem RawS.ext{base:Option Addr}{S:List Rs}(h:RawS w base S)(e:Ext w w'):RawS w' base S:=by
 intro i s hi;obtain⟨b,off,h1,h2,h4⟩:=h i s hi;exact⟨b,off,h1,e.lt h2,e.cellS h4.c0,e.cellS h4.c1,e.cellS h4.c2,e.cellS h4.c3,e.cellS h4.c4⟩
def okS(s:Rs):Bool:=okN s.a 90&&decide (0<=s.m/\s.m<=s.M/\s.M<=99999)&&okN s.wi 9&&okN s.li 9
def Z23(S:List Rs):Int:=if 8<S.length then 2 else if S.all okS then 0 else 1
theorem Z85{S:List Rs}{i:Nat}{s:Rs}(hs:S[i]? =some s)(h:okS s=false)(hn:¬8<S.length):Z23 S=1:=by
 rw[Z23,XA hn,XA];rw[YL];intro ha;have:=ha s (YQ hs);rw[h] at this;cases this
theorem Z9t(r0 r1 r2 r3:Int)(base:Option Addr)(n cap:Nat)(S:List Rs)(w:World)(A1:S.length=n)(hS:RawS w base S):Calls gp 83 #[.agg (Zh r0 r1 r2 r3 base n cap)] w λe w'=>e= .returned (.int .i64 (Z23 S))/\Ext w w':=by
 simp only[Zh];go_enter fk Tryz.func83,Tryz.ntmps83;go_wp2
 ·rename_i Mc;go_ret;refine⟨Z10 (a:=2) ?_,(Ext.rfl' w).alloc _⟩;rw[Z23,YZ (by omega)]
 ·rename_i Bl;go_loopw [14] (λv wr=>∃i:Nat,i<=n/\v= .int .i64 i/\Ext w wr/\∀j s,j<i->S[j]? =some s->okS s=true) (λv _=>n - (intOf v).toNat)
  case atStart=>
   exact⟨0,XS _,rfl,((Ext.rfl' w).alloc _),λj s hj=>by omega⟩
  case round=>
   obtain⟨i,hi,rfl,hE,hz⟩:=hrel;have hS':=hS.ext hE;by_cases Ao:i=n
   ·subst Ao;go_wp2;go_ret;refine⟨Z10 (a:=0) ?_,hE⟩;rw[Z23,XA (by omega),YZ];rw[YL];intro s hs;obtain⟨j,hj,he⟩:=List.mem_iff_getElem.1 hs;exact hz j s (by omega) (by rw[<-he];exact YH hj)
   ·have A3:i<n:=(by omega);obtain⟨s,hs⟩:∃s,S[i]? =some s:=⟨_,YH (by omega)⟩;obtain⟨b,off,rfl,hb,c0,c1,c2,c3,c4⟩:=hS' i s hs;clear hS hS';go_wp2_with (first|(go_at_call 65;refine(Z09 _ _ _ _).mono ?_;rintro e wr ⟨rfl,rfl⟩)|(go_at_call 113;refine(Z0M _ _).mono ?_;rintro e wr ⟨rfl,rfl⟩)|(go_at_call 119;refine(Zpq _ _ _ _ _).mono ?_;rintro e wr ⟨rfl,rfl⟩));all_goals (try simp only[XR,Bool.not_eq_false',QL,XG] at*)
    all_goals first
     |(go_ret
       refine⟨Z10 (a:=1) (Z85 hs ?_ (by omega)).symm,by first|exact(hE.alloc _).alloc _|exact hE.alloc _⟩;rw[Bool.eq_false_iff];intro h;simp[okS,okN] at h;omega)
     |(refine⟨⟨i+1,by omega,by push_cast;rfl,(by first|exact(hE.alloc _).alloc _|exact hE.alloc _),λj s' hj hs'=> ?_⟩,by simp[intOf];omega⟩
       rcases TD.1 hj with h|rfl
       ·exact hz j s' h hs'
       ·obtain rfl:s=s':=(by rw[hs] at hs';exact YT hs');simp[okS,okN];omega)
variable [Tw]
def firstV:List Int->Int
 |[]=>0
 |x::l=>if x=0 then firstV l else x
theorem firstV_zero:∀{l:List Int},(∀(i:Nat)(x:Int),l[i]? =some x->x=0)->firstV l=0
 |[],_=>rfl
 |x::l,h=>by
  have h0:=h 0 x rfl;rw[firstV,YZ h0];exact firstV_zero λi y hy=>h (i+1) y hy
theorem firstV_at:∀{l:List Int}{i:Nat}{x:Int},l[i]? =some x->x≠0->(∀(j:Nat)(y:Int),j<i->l[j]? =some y->y=0)->firstV l=x
 |[],i,x,h,_,_=>by simp at h
 |y::l,0,x,h,hx,_=>by
  simp at h;subst h;rw[firstV,XA hx]
 |y::l,i+1,x,h,hx,hz=>by
  rw[firstV,YZ (hz 0 y (by omega) rfl)];exact firstV_at h hx λj z hj hz'=>hz (j+1) z (by omega) hz'
theorem Z1S(B n cap:Nat)(fv:Nat->FuncId)(av cv:Nat->Array Value)(r:List Int)(hr:r.length=n)(hn:n<=8)(w:World)
 (Bc:∀i,i<n->w.cell? ⟨B,i,none⟩=some (.func (.func (fv i)) (av i) (cv i)))
 (G2:∀i,i<n->∀args w',(callFunc (fv i) args).run gp w'= .ok (.enter (fv i) args) w')
 (Ci:∀i x,r[i]? =some x->∀w',Ext w w'->Calls gp (fv i) (av i++cv i) w' λe w''=>e= .returned (.int .i64 x)/\Ext w' w''):
 Calls gp 61 #[.slice (some ⟨B,0,none⟩) n cap] w λe w'=>e= .returned (.int .i64 (firstV r))/\Ext w w':=by
 have hg:∀i,i<n->r[i]? =some (r.getD i 0):=λi hi=>by
  rw[List.getD_eq_getElem?_getD,YH (by omega)];rfl
 refine(Z5w B n cap hn fv av cv (λ_ w'=>Ext w w') (λw'=>Ext w w') (λi=>r.getD i 0) w (λi hi w' hE=>hE.cellS (Bc i hi)) G2 ?_ (Ext.rfl' w)).mono ?_
 ·intro i hi w' hE;refine(Ci i _ (hg i hi) w' hE).mono ?_;rintro e w'' ⟨rfl,A4⟩;exact⟨rfl,λ_=>hE.trans A4,λ_=>hE.trans A4⟩
 ·rintro e w' ⟨v,rfl,⟨rfl,hE,hz⟩|⟨i,hi,A9,rfl,hz,hE⟩⟩
  ·refine⟨?_,hE⟩;rw[firstV_zero];intro i x hx;have hi:=(YI.1 hx).1;have:=hz i (by omega);rw[List.getD_eq_getElem?_getD,hx] at this;exact this
  ·refine⟨?_,hE⟩;rw[firstV_at (hg i hi) A9];intro j y hj hy;have:=hz j hj;rw[List.getD_eq_getElem?_getD,hy] at this;exact this
def ZC(r0 r1 r2 r3:Int)(S:List Rs):Int:=firstV [Z5y r0 r1 r2 r3,Z23 S]
theorem Z0U(r0 r1 r2 r3:Int)(base:Option Addr)(n cap:Nat)(S:List Rs)(w:World)(A1:S.length=n)(hS:RawS w base S):
 Calls gp 43 #[.agg (Zh r0 r1 r2 r3 base n cap)] w λe w'=>e= .returned (.int .i64 (ZC r0 r1 r2 r3 S))/\Ext w w':=by
 simp only[Zh];go_enter fk Tryz.func43,Tryz.ntmps43
 go_wp2_with (
  go_at_call 61
  have hE:Ext w _:=(((Ext.rfl' w).alloc (.cells #[r0,r1,r2,r3,.slice base n cap] 31)).alloc (.cells #[r0,r1,r2,r3,.slice base n cap] 132)).alloc (.cells #[.func (.func 82) #[.agg #[r0,r1,r2,r3,.slice base n cap]] #[],.func (.func 83) #[.agg #[r0,r1,r2,r3,.slice base n cap]] #[]] 129);have hb:=Z3 ((w.alloc (.cells #[r0,r1,r2,r3,.slice base n cap] 31)).alloc (.cells #[r0,r1,r2,r3,.slice base n cap] 132)) (.cells #[.func (.func 82) #[.agg #[r0,r1,r2,r3,.slice base n cap]] #[],.func (.func 83) #[.agg #[r0,r1,r2,r3,.slice base n cap]] #[]] 129) (w.heap.size+1+1);rw[YZ (by simp only[Z2])] at hb;generalize World.alloc _ _=w1 at hE hb⊢;refine(Z1S (w.heap.size+1+1) 2 2 (λi=>if i=0 then 82 else 83) (λi=> #[.agg #[r0,r1,r2,r3,.slice base n cap]]) (λi=> #[]) [Z5y r0 r1 r2 r3,Z23 S] rfl (by omega) w1 ?_ ?_ ?_).mono ?_
  ·intro i hi;rw[Z0 hb];obtain rfl|rfl:i=0\/i=1:=by omega
   ·rfl
   ·rfl
  ·intro i hi args w';obtain rfl|rfl:i=0\/i=1:=by omega
   ·simp[go_sem]
   ·simp[go_sem]
  ·intro i x hx w' hE'
   match i,hx with
   |0,hx=>
    obtain rfl:=YT hx;exact Zbh r0 r1 r2 r3 base n cap w'
   |1,hx=>
    obtain rfl:=YT hx;exact Z9t r0 r1 r2 r3 base n cap S w' A1 (hS.ext (hE.trans hE'))
  rintro e w2 ⟨rfl,A4⟩)
 go_ret;exact⟨rfl,hE.trans A4⟩
end
end Go.Proofs.Tryq
