import Derived.Test.YtedkbdkbbnemlaaGreatDoorNkA
import Derived.Test.YtedkbdkbbnemlaaGreatDoorNk07
import Derived.BigRegion
import Derived.Deep.RegionWith
import Derived.LoopTactic
import Derived.WalkSpells
set_option linter.all false
namespace Go.Proofs.Tryq
set_option maxHeartbeats 1000000
open Go Go.Nk Go.RowKit
theorem Z07{fn:Func}{p:Tmp}{ty:TypeId}(h:fn.results= #[.cell p ty])(tmps:Array Value)(P:Program)(w:World):
 (results fn tmps).run P w=((asAddr (tmps.getD p undef)).run P w).andThen fun a w₁=>(loadVar ty a).run P w₁:=by
 simp only[results,h];simp[Sem.run_bind,Result.andThen]
structure ShotAt(w:World)(b off:Nat)(x0 x1 x2 x3 x4:Int):Prop where
 c0:w.cell? ⟨b,off,none⟩=some (.int .i64 x0)
 c1:w.cell? ⟨b,off+1,none⟩=some (.int .i64 x1)
 c2:w.cell? ⟨b,off+2,none⟩=some (.int .i64 x2)
 c3:w.cell? ⟨b,off+3,none⟩=some (.int .i64 x3)
 c4:w.cell? ⟨b,off+4,none⟩=some (.int .i64 x4)
def Zg(r0 r1 r2 r3:Int)(b off len cap:Nat):Array Value:= #[.int .i64 r0,.int .i64 r1,.int .i64 r2,.int .i64 r3,.slice (some ⟨b,off,none⟩) len cap]
def lo(x1 x3 x4 r2 r3:Int):Int:=wrap64 (x1 - wrap64 (wrap64 (x3*r2)+wrap64 (x4*r3)))
def hi(x2 x3 x4 r2 r3:Int):Int:=wrap64 (x2+wrap64 (wrap64 (x3*r2)+wrap64 (x4*r3)))
structure Grew(w w':World)(os:List Obj):Prop where
 size:w'.heap.size=w.heap.size+os.length
 old:∀b,b<w.heap.size->w'.heap[b]? =w.heap[b]?
 new:∀i,i<os.length->w'.heap[w.heap.size+i]? =os[i]?
 tape:w'.tape=w.tape
 oss:w'.os=w.os
 output:w'.output=w.output
theorem Grew.nil(w:World):Grew w w []:=⟨rfl,fun _ _=>rfl,fun i hi=>absurd hi (by simp),rfl,rfl,rfl⟩
theorem Grew.push{w w':World}{os:List Obj}(h:Grew w w' os)(o:Obj):Grew w (w'.alloc o) (os++[o]):=by
 have e:(w'.alloc o).heap=w'.heap.push o:=rfl;refine⟨by rw[e];simp[h.size];omega,fun b hb=> ?_,fun i hi=> ?_,h.tape,h.oss,h.output⟩
 ·rw[e,Array.getElem?_push,if_neg (by rw[h.size];omega)];exact h.old b hb
 ·rw[e,Array.getElem?_push];simp only[List.length_append,YP,List.length_nil] at hi;by_cases hi':i=os.length
  ·subst hi';rw[if_pos h.size.symm];simp
  ·rw[if_neg (by rw[h.size];omega),h.new i (by omega),List.getElem?_append_left (by omega)]
theorem Grew.cell{w w':World}{os:List Obj}(h:Grew w w' os){a:Addr}(ha:a.block<w.heap.size):w'.cell? a=w.cell? a:=by
 simp only[World.cell?,h.old _ ha]
def Z83(c:Array Value)(l h:Int)(x0 x1 x2 x3 x4:Int):List Obj:=[.cells c 143,.cells #[.int .i64 l,.int .i64 h] 48,.cells #[.int .i64 x0,.int .i64 x1,.int .i64 x2,.int .i64 x3,.int .i64 x4] 80]
theorem Z39(r0 r1 r2 r3 x0 x1 x2 x3 x4 k:Int)(b off len cap:Nat)(w:World)(hk:0<=k)(hk':k<len)(hb:b<w.heap.size)(hs:ShotAt w b (off+k.toNat*5) x0 x1 x2 x3 x4):
 Calls prog 111 #[.agg (Zg r0 r1 r2 r3 b off len cap),.int .i64 k] w fun e w'=>
  e= .returned (.agg #[.int .i64 (lo x1 x3 x4 r2 r3),.int .i64 (hi x2 x3 x4 r2 r3)])/\Grew w w' (Z83 (Zg r0 r1 r2 r3 b off len cap) (lo x1 x3 x4 r2 r3) (hi x2 x3 x4 r2 r3) x0 x1 x2 x3 x4):=by
 obtain⟨h0,h1,h2,h3,h4⟩:=hs;simp only[Zg,lo,hi,Z83];go_enter func111,ntmps111;have B6:b<w.heap.size+1:=by omega
 have hp:∀(v:World)(o:Obj)(off':Nat),b<v.heap.size->(v.alloc o).cell? ⟨b,off',none⟩=v.cell? ⟨b,off',none⟩:=fun v o off' h=>World.cell?_alloc_lt _ _ _ h
 go_wp2;refine bodyPost_ret ((Z07 rfl _ _ _).trans ?_) rfl ⟨rfl,(((Grew.nil w).push _).push _).push _⟩;simp[go_sem]
theorem Z09(n l h:Int)(w:World):Calls prog 110 #[.int .i64 n,.int .i64 l,.int .i64 h] w fun e w'=>e= .returned (.bool (decide (l<=n/\n<=h)))/\w'=w:=by
 go_enter func110,ntmps110;go_wp2;all_goals (go_ret;simp;omega)
theorem Z0M(n:Int)(w:World):Calls prog 152 #[.int .i64 n] w fun e w'=>e= .returned (.bool (decide (0<=n/\n<=90)))/\w'=w:=by
 go_enter func152,ntmps152;go_wp2;all_goals (go_ret;simp;omega)
end Go.Proofs.Tryq
namespace Go.Proofs.Tryq
set_option maxHeartbeats 2000000
open Go Go.Nk Go.RowKit
theorem Grew.drew{w w':World}{os:List Obj}(h:Grew w w' os):Grew w w'.drew os:=⟨h.size,h.old,h.new,h.tape,h.oss,h.output⟩
theorem Grew.cellNew{w w':World}{os:List Obj}(h:Grew w w' os)(j:Nat){C:Array Value}{e:TypeId}{f:Nat×Nat}(hj:os[j]? =some (.cells C e f))(i:Nat):w'.cell? ⟨w.heap.size+j,i,none⟩=C[i]? :=by
 have:=h.new j (YI.1 hj).1;rw[hj] at this;simp[World.cell?,this]
theorem Grew.thaw{w w':World}{os:List Obj}(h:Grew w w' os)(j:Nat){C:Array Value}{e:TypeId}(hj:os[j]? =some (.cells C e))(i:Nat):w'.frozen? ⟨w.heap.size+j,i,none⟩=false:=by
 have:=h.new j (YI.1 hj).1;rw[hj] at this;simp[World.frozen?,this]
theorem Grew.setCell{w w':World}{os:List Obj}(h:Grew w w' os)(j:Nat){C:Array Value}{e:TypeId}(hj:os[j]? =some (.cells C e))(i:Nat)(v:Value):Grew w (w'.setCell ⟨w.heap.size+j,i,none⟩ v) (os.set j (.cells (C.setIfInBounds i v) e)):=by
 have A4:=(YI.1 hj).1;have hn:=h.new j A4;rw[hj] at hn;refine⟨by simp[World.setCell,h.size],fun b hb=> ?_,fun i' hi'=> ?_,h.tape,h.oss,h.output⟩
 ·simp only[World.setCell,Array.getElem?_modify];rw[if_neg (by omega)];exact h.old b hb
 ·simp only[List.length_set] at hi';simp only[World.setCell,Array.getElem?_modify];by_cases e:j=i'
  ·subst e;rw[if_pos rfl,hn,List.getElem?_set_self A4];rfl
  ·rw[if_neg (by omega),h.new i' hi',List.getElem?_set_ne e]
def upI(l r:Int):Nat->Int
 |0=>l
 |n+1=>wrap64 (upI l r n+r)
def dnI(l r:Int):Nat->Int
 |0=>l
 |n+1=>wrap64 (dnI l r n - r)
def atC(l h r0 r1:Int)(c d:Nat):Int×Int:=if c<=d then(upI l r0 (d - c),upI h r1 (d - c)) else(dnI l r1 (c - d),dnI h r0 (c - d))
def part(l h r0 r1:Int)(c a d:Nat):Array Value:=((List.range 182).map fun i=>Value.int .i64 (if a<=i / 2/\i / 2<d then(if i % 2=0 then(atC l h r0 r1 c (i / 2)).1 else(atC l h r0 r1 c (i / 2)).2) else 0)).toArray
section
variable (l h r0 r1:Int) (c a d:Nat)
theorem part_size:(part l h r0 r1 c a d).size=182:=by simp[part]
theorem part_get{i:Nat}(hi:i<182):(part l h r0 r1 c a d)[i]? =some (Value.int .i64 (if a<=i / 2/\i / 2<d then(if i % 2=0 then(atC l h r0 r1 c (i / 2)).1 else(atC l h r0 r1 c (i / 2)).2) else 0)):=by
 simp[part,List.getElem?_map,List.getElem?_range hi]
theorem Z1j{j:Nat}(hj:j<=90)(h1:a<=j)(h2:j<d):(part l h r0 r1 c a d)[j*2]? =some (.int .i64 (atC l h r0 r1 c j).1):=by
 rw[part_get _ _ _ _ _ _ _ (by omega)];have e:j*2 / 2=j:=by omega
 have e2:j*2 % 2=0:=by omega
 rw[e,e2,if_pos ⟨h1,h2⟩,if_pos rfl]
theorem Z1R{j:Nat}(hj:j<=90)(h1:a<=j)(h2:j<d):(part l h r0 r1 c a d)[j*2+1]? =some (.int .i64 (atC l h r0 r1 c j).2):=by
 rw[part_get _ _ _ _ _ _ _ (by omega)];have e:(j*2+1) / 2=j:=by omega
 have e2:(j*2+1) % 2=1:=by omega
 rw[e,e2,if_pos ⟨h1,h2⟩,if_neg (by omega)]
theorem Z0Y{a' d' j:Nat}(hj:j<=90)(h1:∀x,(a'<=x/\x<d')↔((a<=x/\x<d)\/x=j)):
 ((part l h r0 r1 c a d).setIfInBounds (j*2) (.int .i64 (atC l h r0 r1 c j).1)).setIfInBounds (j*2+1) (.int .i64 (atC l h r0 r1 c j).2)=part l h r0 r1 c a' d':=by
 apply Array.ext_getElem?;intro i;rcases Nat.lt_or_ge i 182 with hi|hi
 ·rw[part_get _ _ _ _ _ _ _ hi,Array.getElem?_setIfInBounds,Array.getElem?_setIfInBounds];simp only[Array.size_setIfInBounds,part_size];by_cases e:i / 2=j
  ·have h2:=(h1 j).2 (.inr rfl);rw[e,if_pos h2];rcases Nat.mod_two_eq_zero_or_one i with h3|h3
   ·have e2:i=j*2:=(by omega);subst e2;rw[if_neg (by omega),if_pos rfl,if_pos hi,if_pos h3]
   ·have e2:i=j*2+1:=(by omega);subst e2;rw[if_pos rfl,if_pos hi,if_neg (by omega)]
  ·rw[if_neg (by omega),if_neg (by omega),part_get _ _ _ _ _ _ _ hi];congr 2;have h2:=h1 (i / 2);by_cases h3:a<=i / 2/\i / 2<d
   ·rw[if_pos h3,if_pos (h2.2 (.inl h3))]
   ·rw[if_neg h3,if_neg (fun h4=>(h2.1 h4).elim h3 e)]
 ·rw[Array.getElem?_eq_none (by simp[part_size];omega),Array.getElem?_eq_none (by simp[part_size];omega)]
end
def Z4I(cc:Array Value)(C:Array Value)(l h x0 x1 x2 x3 x4:Int):List Obj:=[.cells cc 143,.cells C 224,.cells cc 143,.cells #[.int .i64 l,.int .i64 h] 48,.cells #[.int .i64 x0,.int .i64 x1,.int .i64 x2,.int .i64 x3,.int .i64 x4] 80]
theorem zeros:(Tryz.zeroCells224)=part 0 0 0 0 0 0 0:=by kernel_rfl
theorem Grew.trans{w w' w'':World}{os os':List Obj}(h:Grew w w' os)(h':Grew w' w'' os'):Grew w w'' (os++os'):=by
 refine⟨by rw[h'.size,h.size,List.length_append];omega,fun b hb=>(h'.old b (by rw[h.size];omega)).trans (h.old b hb),fun i hi=> ?_,h'.tape.trans h.tape,h'.oss.trans h.oss,h'.output.trans h.output⟩;rw[List.length_append] at hi;rcases Nat.lt_or_ge i os.length with h1|h1
 ·rw[List.getElem?_append_left h1,h'.old _ (by rw[h.size];omega),h.new i h1]
 ·rw[List.getElem?_append_right h1,<-h'.new (i - os.length) (by omega),h.size];congr 1;omega
theorem Z3w(l h r0 r1:Int)(c a:Nat):Tryz.zeroCells224=part l h r0 r1 c a a:=by
 rw[zeros];apply Array.ext_getElem?;intro i;rcases Nat.lt_or_ge i 182 with hi|hi
 ·rw[part_get _ _ _ _ _ _ _ hi,part_get _ _ _ _ _ _ _ hi,if_neg (by omega),if_neg (by omega)]
 ·rw[Array.getElem?_eq_none (by simp[part_size];omega),Array.getElem?_eq_none (by simp[part_size];omega)]
theorem Z2q{i:Nat}(hi:i<182):Tryz.zeroCells224[i]? =some (.int .i64 0):=by
 rw[zeros,part_get _ _ _ _ _ _ _ hi,if_neg (by omega)]
theorem Z6q(r0 r1 r2 r3 x1 x2 x3 x4 k:Int)(c:Nat)(b off len cap:Nat)(w:World)(hk:0<=k)(hk':k<len)(hb:b<w.heap.size)(hat:c<=90)(hs:ShotAt w b (off+k.toNat*5) c x1 x2 x3 x4)(l h:Int)(hl:l=lo x1 x3 x4 r2 r3)(hh:h=hi x2 x3 x4 r2 r3):
 Calls prog 164 #[.agg (Zg r0 r1 r2 r3 b off len cap),.int .i64 k] w fun e w'=>e= .returned (.pointer (some ⟨w.heap.size+1,0,none⟩))/\
  Grew w w' (Z4I (Zg r0 r1 r2 r3 b off len cap) (part l h r0 r1 c 0 91) l h c x1 x2 x3 x4):=by
 have h0:=hs.c0
 have hw:Calls prog 111 #[.agg (Zg r0 r1 r2 r3 b off len cap),.int .i64 k] ((w.alloc (.cells (Zg r0 r1 r2 r3 b off len cap) 143)).alloc (.cells Tryz.zeroCells224 224)) fun e w'=>e= .returned (.agg #[.int .i64 l,.int .i64 h])/\
  Grew w w' (Z4I (Zg r0 r1 r2 r3 b off len cap) Tryz.zeroCells224 l h c x1 x2 x3 x4)/\w'.cell? ⟨w.heap.size+1,c*2,none⟩=some (.int .i64 0)/\w'.cell? ⟨w.heap.size+1,c*2+1,none⟩=some (.int .i64 0)/\
  w'.frozen? ⟨w.heap.size+1,c*2,none⟩=false/\w'.frozen? ⟨w.heap.size+1,c*2+1,none⟩=false:=by
  have hG:Grew w ((w.alloc (.cells (Zg r0 r1 r2 r3 b off len cap) 143)).alloc (.cells Tryz.zeroCells224 224)) _:=((Grew.nil w).push _).push _;subst hl;subst hh;refine(Z39 r0 r1 r2 r3 c x1 x2 x3 x4 k b off len cap _ hk hk' (by rw[hG.size];omega) ⟨?_,?_,?_,?_,?_⟩).mono ?_
  ·rw[hG.cell hb];exact hs.c0
  ·rw[hG.cell hb];exact hs.c1
  ·rw[hG.cell hb];exact hs.c2
  ·rw[hG.cell hb];exact hs.c3
  ·rw[hG.cell hb];exact hs.c4
  ·rintro e w' ⟨rfl,h2⟩;have h3:Grew w w' (Z4I (Zg r0 r1 r2 r3 b off len cap) Tryz.zeroCells224 (lo x1 x3 x4 r2 r3) (hi x2 x3 x4 r2 r3) c x1 x2 x3 x4):=hG.trans h2;exact⟨rfl,h3,(h3.cellNew 1 rfl _).trans (Z2q (by omega)),(h3.cellNew 1 rfl _).trans (Z2q (by omega)),h3.thaw 1 rfl _,h3.thaw 1 rfl _⟩
 simp only[Zg] at hw⊢;clear hs hl hh;go_enter func164,ntmps164;have B6:b<w.heap.size+1:=by omega
 have hp:∀(v:World)(o:Obj)(off':Nat),b<v.heap.size->(v.alloc o).cell? ⟨b,off',none⟩=v.cell? ⟨b,off',none⟩:=fun v o off' h=>World.cell?_alloc_lt _ _ _ h
 go_wp2_with (
  go_at_call 111
  refine hw.mono ?_;rintro e w' ⟨rfl,hG,z0,z1,f0,f1⟩;clear hw hp B6 h0)
 have Eh:=(hG.setCell 1 rfl (c*2) (.int .i64 l)).setCell 1 rfl (c*2+1) (.int .i64 h);have eP:((Tryz.zeroCells224).setIfInBounds (c*2) (.int .i64 l)).setIfInBounds (c*2+1) (.int .i64 h)=part l h r0 r1 c c (c+1):=by
  have:=Z0Y l h r0 r1 c c c (a':=c) (d':=c+1) (j:=c) hat (fun x=>by omega);rw[<-Z3w] at this;rw[<-this];simp[atC,upI]
 replace Eh:Grew w ((w'.setCell ⟨w.heap.size+1,c*2,none⟩ (.int .i64 l)).setCell ⟨w.heap.size+1,c*2+1,none⟩ (.int .i64 h)) (Z4I #[.int .i64 r0,.int .i64 r1,.int .i64 r2,.int .i64 r3,.slice (some ⟨b,off,none⟩) len cap] (part l h r0 r1 c c (c+1)) l h c x1 x2 x3 x4):=by rw[<-eP];exact Eh
 generalize (w'.setCell ⟨w.heap.size+1,c*2,none⟩ (.int .i64 l)).setCell ⟨w.heap.size+1,c*2+1,none⟩ (.int .i64 h)=w2 at Eh⊢;clear hG z0 z1 f0 f1 eP
 go_loopw [7] (fun v wr=>∃e:Nat,c<=e/\e<=90/\v= .int .i64 (e+1)/\Grew w wr (Z4I #[.int .i64 r0,.int .i64 r1,.int .i64 r2,.int .i64 r3,.slice (some ⟨b,off,none⟩) len cap] (part l h r0 r1 c c (e+1)) l h c x1 x2 x3 x4))
  (fun v _=>91 - (intOf v).toNat)
 case atStart=>exact⟨c,Nat.le_refl _,hat,rfl,Eh⟩
 case round=>
  obtain⟨e,Kk,H9,rfl,B7⟩:=hrel;clear Eh
  go_wp2_with (
   go_at_call 152
   refine(Z0M _ _).mono ?_;rintro e' wr' ⟨rfl,rfl⟩)
  ·have A4:e+1<=90:=by omega
   have g0:wr'.cell? ⟨w.heap.size+1,e*2,none⟩=some (.int .i64 (atC l h r0 r1 c e).1):=(B7.cellNew 1 rfl _).trans (Z1j _ _ _ _ _ _ _ (by omega) Kk (by omega));have g1:wr'.cell? ⟨w.heap.size+1,e*2+1,none⟩=some (.int .i64 (atC l h r0 r1 c e).2):=(B7.cellNew 1 rfl _).trans (Z1R _ _ _ _ _ _ _ (by omega) Kk (by omega));have g2:wr'.cell? ⟨w.heap.size,0,none⟩=some (.int .i64 r0):=B7.cellNew 0 rfl _;have g3:wr'.cell? ⟨w.heap.size,1,none⟩=some (.int .i64 r1):=B7.cellNew 0 rfl _;have g4:wr'.cell? ⟨w.heap.size+1,(e+1)*2,none⟩=some (.int .i64 0):=(B7.cellNew 1 rfl _).trans ((part_get _ _ _ _ _ _ _ (by omega)).trans (by rw[if_neg (by omega)]));have g5:wr'.cell? ⟨w.heap.size+1,(e+1)*2+1,none⟩=some (.int .i64 0):=(B7.cellNew 1 rfl _).trans ((part_get _ _ _ _ _ _ _ (by omega)).trans (by rw[if_neg (by omega)]));have g6:wr'.frozen? ⟨w.heap.size+1,(e+1)*2,none⟩=false:=B7.thaw 1 rfl _;have g7:wr'.frozen? ⟨w.heap.size+1,(e+1)*2+1,none⟩=false:=B7.thaw 1 rfl _
   go_region
   all_goals go_wp2
   refine⟨⟨e+1,by omega,A4,by push_cast;rfl,?_⟩,by simp[intOf];omega⟩;have Hc:=((B7.setCell 1 rfl ((e+1)*2) (.int .i64 (wrap64 ((atC l h r0 r1 c e).1+r0)))).setCell 1 rfl ((e+1)*2+1) (.int .i64 (wrap64 ((atC l h r0 r1 c e).2+r1)))).drew;have eA:atC l h r0 r1 c (e+1)=(wrap64 ((atC l h r0 r1 c e).1+r0),wrap64 ((atC l h r0 r1 c e).2+r1)):=by
    have e1:e+1 - c=(e - c)+1:=(by omega);simp only[atC,if_pos Kk,if_pos (show c<=e+1 by omega),e1,upI]
   have eP:=Z0Y l h r0 r1 c c (e+1) (a':=c) (d':=e+1+1) (j:=e+1) A4 (fun x=>by omega);rw[eA] at eP;rw[<-eP];exact Hc
  ·have he:e=90:=by omega
   subst he;have Nl:Grew w wr' (Z4I #[.int .i64 r0,.int .i64 r1,.int .i64 r2,.int .i64 r3,.slice (some ⟨b,off,none⟩) len cap] (part l h r0 r1 c c 91) l h c x1 x2 x3 x4):=B7;clear B7
   go_loopw [8] (fun v wr=>∃f:Nat,f<=c/\v= .int .i64 ((f:Int) - 1)/\Grew w wr (Z4I #[.int .i64 r0,.int .i64 r1,.int .i64 r2,.int .i64 r3,.slice (some ⟨b,off,none⟩) len cap] (part l h r0 r1 c f 91) l h c x1 x2 x3 x4))
    (fun v _=>(intOf v+1).toNat)
   case atStart=>exact⟨c,Nat.le_refl _,rfl,Nl⟩
   case round=>
    obtain⟨f,hf,rfl,B7⟩:=hrel;clear Nl;rcases f with _|g
    ·go_wp2_with (
      go_at_call 152
      refine(Z0M _ _).mono ?_;rintro e' wr2 ⟨rfl,rfl⟩)
     go_ret;exact⟨rfl,B7⟩
    ·have ev:((g+1:Nat):Int) - 1=g:=(by omega);rw[ev];have g0:wr.cell? ⟨w.heap.size+1,(g+1)*2,none⟩=some (.int .i64 (atC l h r0 r1 c (g+1)).1):=(B7.cellNew 1 rfl _).trans (Z1j _ _ _ _ _ _ _ (by omega) (by omega) (by omega));have g1:wr.cell? ⟨w.heap.size+1,(g+1)*2+1,none⟩=some (.int .i64 (atC l h r0 r1 c (g+1)).2):=(B7.cellNew 1 rfl _).trans (Z1R _ _ _ _ _ _ _ (by omega) (by omega) (by omega));have g2:wr.cell? ⟨w.heap.size,0,none⟩=some (.int .i64 r0):=B7.cellNew 0 rfl _;have g3:wr.cell? ⟨w.heap.size,1,none⟩=some (.int .i64 r1):=B7.cellNew 0 rfl _;have g4:wr.cell? ⟨w.heap.size+1,g*2,none⟩=some (.int .i64 0):=(B7.cellNew 1 rfl _).trans ((part_get _ _ _ _ _ _ _ (by omega)).trans (by rw[if_neg (by omega)]));have g5:wr.cell? ⟨w.heap.size+1,g*2+1,none⟩=some (.int .i64 0):=(B7.cellNew 1 rfl _).trans ((part_get _ _ _ _ _ _ _ (by omega)).trans (by rw[if_neg (by omega)]));have g6:wr.frozen? ⟨w.heap.size+1,g*2,none⟩=false:=B7.thaw 1 rfl _;have g7:wr.frozen? ⟨w.heap.size+1,g*2+1,none⟩=false:=B7.thaw 1 rfl _
     go_wp2_with (
      go_at_call 152
      refine(Z0M _ _).mono ?_;rintro e' wr2 ⟨rfl,rfl⟩)
     go_region
     all_goals go_wp2
     refine⟨?_,?measure⟩;iterate 28 apply Exists.intro
     refine⟨?rel,rfl⟩
     case rel=>
      refine⟨g,by omega,rfl,?_⟩;have Hc:=((B7.setCell 1 rfl (g*2) (.int .i64 (wrap64 ((atC l h r0 r1 c (g+1)).1 - r1)))).setCell 1 rfl (g*2+1) (.int .i64 (wrap64 ((atC l h r0 r1 c (g+1)).2 - r0)))).drew;have eA:atC l h r0 r1 c g=(wrap64 ((atC l h r0 r1 c (g+1)).1 - r1),wrap64 ((atC l h r0 r1 c (g+1)).2 - r0)):=by
       have e1:c - g=(c - (g+1))+1:=(by omega);by_cases h1:c<=g+1
       ·have e2:c=g+1:=(by omega);simp only[atC,if_pos h1,if_neg (show¬c<=g by omega),e1,dnI];simp[e2,dnI,upI]
       ·simp only[atC,if_neg h1,if_neg (show¬c<=g by omega),e1,dnI]
      have eP:=Z0Y l h r0 r1 c (g+1) 91 (a':=g) (d':=91) (j:=g) (by omega) (fun x=>by omega);rw[eA] at eP;rw[<-eP];exact Hc
     case measure=>simp[intOf]
end Go.Proofs.Tryq
namespace Go.Proofs.Tryq
set_option maxRecDepth 100000
set_option maxHeartbeats 4000000
open Go Go.Nk Go.RowKit
theorem run_asAgg(cs:Array Value)(w:World):(asAgg (.agg cs)).run prog w= .ok cs w:=rfl
@[simp] theorem f96 (a b c d e:Value) (w:World):(Instr.field 143 (.agg #[a,b,c,d,e]) 0).run prog w= .ok (.agg #[a,b,c,d,e]) w:=by
  unfold Instr.field Go.part;simp[go_sem,run_asAgg]
@[simp] theorem f49_0 (a b c d e:Value) (w:World):(Instr.field 70 (.agg #[a,b,c,d,e]) 0).run prog w= .ok (.agg #[a,b,c,d]) w:=by
  unfold Instr.field Go.part;simp[go_sem,run_asAgg]
@[simp] theorem f49_1 (a b c d e:Value) (w:World):(Instr.field 70 (.agg #[a,b,c,d,e]) 1).run prog w= .ok e w:=by
  unfold Instr.field Go.part;simp[go_sem,run_asAgg]
@[simp] theorem f46_0 (a b c d:Value) (w:World):(Instr.field 67 (.agg #[a,b,c,d]) 0).run prog w= .ok a w:=by
  unfold Instr.field Go.part;simp[go_sem,run_asAgg]
@[simp] theorem f46_1 (a b c d:Value) (w:World):(Instr.field 67 (.agg #[a,b,c,d]) 1).run prog w= .ok b w:=by
  unfold Instr.field Go.part;simp[go_sem,run_asAgg]
@[simp] theorem f46_2 (a b c d:Value) (w:World):(Instr.field 67 (.agg #[a,b,c,d]) 2).run prog w= .ok c w:=by
  unfold Instr.field Go.part;simp[go_sem,run_asAgg]
@[simp] theorem f46_3 (a b c d:Value) (w:World):(Instr.field 67 (.agg #[a,b,c,d]) 3).run prog w= .ok d w:=by
  unfold Instr.field Go.part;simp[go_sem,run_asAgg]
structure Sh where
 c:Nat
 m:Int
 M:Int
 wi:Int
 li:Int
def shL(r2 r3:Int)(s:Sh):Int:=lo s.m s.wi s.li r2 r3
def shH(r2 r3:Int)(s:Sh):Int:=hi s.M s.wi s.li r2 r3
def Shots(w:World)(base:Option Addr)(S:List Sh):Prop:=∀(i:Nat)(s:Sh),S[i]? =some s->∃b off,base=some ⟨b,off,none⟩/\b<w.heap.size/\s.c<=90/\ShotAt w b (off+i*5) s.c s.m s.M s.wi s.li
def Zh(r0 r1 r2 r3:Int)(base:Option Addr)(len cap:Nat):Array Value:= #[.int .i64 r0,.int .i64 r1,.int .i64 r2,.int .i64 r3,.slice base len cap]
def shO(cc:Array Value)(r0 r1 r2 r3:Int)(s:Sh):List Obj:=Z4I cc (part (shL r2 r3 s) (shH r2 r3 s) r0 r1 s.c 0 91) (shL r2 r3 s) (shH r2 r3 s) s.c s.m s.M s.wi s.li
def ZH(B n i:Nat):Array Value:=((List.range n).map fun j=>if j<i then Value.pointer (some ⟨B+1+5*j+1,0,none⟩) else Value.pointer none).toArray
def kO(cc:Array Value)(r0 r1 r2 r3:Int)(S:List Sh)(B i:Nat):List Obj:=Obj.cells (ZH B S.length i) 188::(S.take i).flatMap (shO cc r0 r1 r2 r3)
theorem Z0l(B n i:Nat):(ZH B n i).size=n:=by simp[ZH]
theorem Z19{B n i j:Nat}(hj:j<n):(ZH B n i)[j]? =some (if j<i then Value.pointer (some ⟨B+1+5*j+1,0,none⟩) else Value.pointer none):=by
 simp[ZH,List.getElem?_map,List.getElem?_range hj]
theorem Zbg{B n i:Nat}(hi:i<n):(ZH B n i).setIfInBounds i (.pointer (some ⟨B+1+5*i+1,0,none⟩))=ZH B n (i+1):=by
 apply Array.ext_getElem?;intro j;rcases Nat.lt_or_ge j n with hj|hj
 ·rw[Array.getElem?_setIfInBounds,Z19 hj,Z19 hj,Z0l];by_cases e:i=j
  ·subst e;rw[if_pos rfl,if_pos hi,if_pos (by omega)]
  ·rw[if_neg e];congr 1;by_cases h1:j<i
   ·rw[if_pos h1,if_pos (by omega)]
   ·rw[if_neg h1,if_neg (by omega)]
 ·rw[Array.getElem?_eq_none (by simp[Z0l];omega),Array.getElem?_eq_none (by simp[Z0l];omega)]
theorem Z2r(B n:Nat):madeCells (Value.pointer none).cells (n*1)=ZH B n 0:=by
 apply Array.ext_getElem?;intro j;rw[Nat.mul_one];rcases Nat.lt_or_ge j n with hj|hj
 ·rw[Z19 hj,if_neg (by omega)];simp[madeCells,Value.cells,hj,Nat.mod_one]
 ·rw[Array.getElem?_eq_none (by simp[madeCells];omega),Array.getElem?_eq_none (by simp[Z0l];omega)]
theorem run_mk(n:Nat)(hn:n<=8)(w:World):(Instr.makeSlice 144 (.int .i64 n) (.int .i64 n)).run prog w= .ok (.slice (some ⟨w.heap.size,0,none⟩) n n) (w.alloc (.cells (ZH w.heap.size n 0) 188)):=by
 have h8:Tryz.t188.bytes=8:=by kernel_rfl
 have h1:Tryz.t188.size=1:=by kernel_rfl
 have hz:Tryz.t188.zero=some (.pointer none):=by kernel_rfl
 have hu:prog.underlying 144=some (.slice 188):=(underlying_eq 144).trans Tryz.underlying144;have hi:prog.info? 188=some Tryz.t188:=by kernel_rfl
 have:=run_makeSlice (P:=prog) w 144 188 Tryz.t188 (.pointer none) hu hi hz .i64 .i64 n n (by omega) (by omega) (by rw[h1];omega) (by rw[h8];omega) (by omega);rw[this,h1];simp only[Int.toNat_natCast];rw[Z2r w.heap.size n]
theorem Z0Z(cc:Array Value)(r0 r1 r2 r3:Int)(S:List Sh)(B i:Nat)(hi:i<=S.length):(kO cc r0 r1 r2 r3 S B i).length=1+5*i:=by
 simp only[kO,YP,List.length_flatMap];have:(List.map (fun a=>(shO cc r0 r1 r2 r3 a).length) (S.take i))=List.replicate i 5:=by
  rw[List.eq_replicate_iff];refine⟨by simp;omega,fun x hx=> ?_⟩;obtain⟨a,_,rfl⟩:=List.mem_map.1 hx;rfl
 rw[this];simp;omega
theorem ZcR(cc:Array Value)(r0 r1 r2 r3:Int)(S:List Sh)(B i:Nat)(s:Sh)(hs:S[i]? =some s):(kO cc r0 r1 r2 r3 S B i++shO cc r0 r1 r2 r3 s).set 0 (.cells (ZH B S.length (i+1)) 188)=kO cc r0 r1 r2 r3 S B (i+1):=by
 have A4:=(YI.1 hs).1;have e:S.take (i+1)=S.take i++[s]:=by rw[List.take_add_one,hs];rfl
 simp only[kO,e,List.flatMap_append,YK,List.set_cons_zero,List.flatMap_cons,List.flatMap_nil,List.append_nil]
theorem curves_any(r0 r1 r2 r3:Int)(base:Option Addr)(cap:Nat)(w:World)(S:List Sh)(n:Nat)(A3:S.length=n)(hn:n<=8)(hS:Shots w base S):
 Calls prog 155 #[.agg (Zh r0 r1 r2 r3 base n cap)] w fun e w'=>e= .returned (.slice (some ⟨w.heap.size,0,none⟩) n n)/\
  Grew w w' (kO (Zh r0 r1 r2 r3 base n cap) r0 r1 r2 r3 S w.heap.size n):=by
 simp only[Zh];go_enter func155,ntmps155;simp only[kBody,kCheck,kBuild,kRule,kShot,kNext,kTest,kMake,kOne,op];go_wp2;rw[show decide ((n:Int)<=8)=true from decide_eq_true (by omega)];go_loopw [12] (fun v wr=>∃i:Nat,i<=n/\v= .int .i64 i/\wr=w) (fun v _=>n - (intOf v).toNat)
 case atStart=>exact⟨0,Nat.zero_le _,rfl,rfl⟩
 case round=>
  obtain⟨i,hi,rfl,Na⟩:=hrel;obtain rfl:=Na.symm;clear Na;by_cases Aw:i=n
  ·subst Aw;have hmk:=run_mk i hn w;go_wp2;have R0:Grew w (w.alloc (.cells (ZH w.heap.size i 0) 188)) (kO #[.int .i64 r0,.int .i64 r1,.int .i64 r2,.int .i64 r3,.slice base i cap] r0 r1 r2 r3 S w.heap.size 0):=by
    have:=(Grew.nil w).push (.cells (ZH w.heap.size i 0) 188);simpa[kO,A3] using this
   clear hmk;generalize w.alloc (.cells (ZH w.heap.size i 0) 188)=w1 at R0⊢;go_loopw [12] (fun v wx=>∃j:Nat,j<=i/\v= .int .i64 j/\Grew w wx (kO #[.int .i64 r0,.int .i64 r1,.int .i64 r2,.int .i64 r3,.slice base i cap] r0 r1 r2 r3 S w.heap.size j)) (fun v _=>i - (intOf v).toNat)
   case atStart=>exact⟨0,Nat.zero_le _,rfl,R0⟩
   case round=>
    obtain⟨j,hj,rfl,B7⟩:=hrel;clear R0;by_cases Am:j=i
    ·subst Am;go_wp2;go_ret;exact⟨rfl,B7⟩
    ·have A4:j<i:=(by omega);obtain⟨s,hs⟩:∃s,S[j]? =some s:=⟨_,YH (by omega)⟩;obtain⟨b,off,rfl,hb,hc,B9⟩:=hS j s hs
     have Cm:Calls prog 164 #[.agg #[.int .i64 r0,.int .i64 r1,.int .i64 r2,.int .i64 r3,.slice (some ⟨b,off,none⟩) i cap],.int .i64 j] wr fun e w2=>e= .returned (.pointer (some ⟨w.heap.size+1+5*j+1,0,none⟩))/\
      Grew w w2 (kO #[.int .i64 r0,.int .i64 r1,.int .i64 r2,.int .i64 r3,.slice (some ⟨b,off,none⟩) i cap] r0 r1 r2 r3 S w.heap.size j++shO #[.int .i64 r0,.int .i64 r1,.int .i64 r2,.int .i64 r3,.slice (some ⟨b,off,none⟩) i cap] r0 r1 r2 r3 s)/\w2.cell? ⟨w.heap.size,j,none⟩=some (.pointer none)/\w2.frozen? ⟨w.heap.size,j,none⟩=false:=by
      have Az:wr.heap.size=w.heap.size+(1+5*j):=(by rw[B7.size,Z0Z _ _ _ _ _ _ _ _ (by omega)]);refine(Z6q r0 r1 r2 r3 s.m s.M s.wi s.li j s.c b off i cap wr (by omega) (by omega) (by omega) hc ?_ _ _ rfl rfl).mono ?_
      ·simp only[Int.toNat_natCast];exact⟨(B7.cell hb).trans B9.c0,(B7.cell hb).trans B9.c1,(B7.cell hb).trans B9.c2,(B7.cell hb).trans B9.c3,(B7.cell hb).trans B9.c4⟩
      ·rintro e w2 ⟨rfl,hG⟩;have Hc:Grew w w2 (kO #[.int .i64 r0,.int .i64 r1,.int .i64 r2,.int .i64 r3,.slice (some ⟨b,off,none⟩) i cap] r0 r1 r2 r3 S w.heap.size j++shO #[.int .i64 r0,.int .i64 r1,.int .i64 r2,.int .i64 r3,.slice (some ⟨b,off,none⟩) i cap] r0 r1 r2 r3 s):=B7.trans hG;refine⟨?_,Hc,(Hc.cellNew 0 rfl j).trans ?_,Hc.thaw 0 rfl j⟩
       ·rw[Az];congr 4;omega
       ·rw[A3,Z19 A4,if_neg (by omega)]
     clear B9 hc
     go_wp2_with (
      go_at_call 164
      refine Cm.mono ?_;rintro e w2 ⟨rfl,Hc,z,f⟩;clear Cm B7)
     refine⟨⟨j+1,by omega,by push_cast;rfl,?_⟩,by simp[intOf];omega⟩
     ·skip
      have Nl:=Hc.setCell 0 rfl j (.pointer (some ⟨w.heap.size+1+5*j+1,0,none⟩));have Nm:Grew w (w2.setCell ⟨w.heap.size,j,none⟩ (.pointer (some ⟨w.heap.size+1+5*j+1,0,none⟩))) ((kO #[.int .i64 r0,.int .i64 r1,.int .i64 r2,.int .i64 r3,.slice (some ⟨b,off,none⟩) i cap] r0 r1 r2 r3 S w.heap.size j++shO #[.int .i64 r0,.int .i64 r1,.int .i64 r2,.int .i64 r3,.slice (some ⟨b,off,none⟩) i cap] r0 r1 r2 r3 s).set 0 (.cells ((ZH w.heap.size S.length j).setIfInBounds j (.pointer (some ⟨w.heap.size+1+5*j+1,0,none⟩))) 188)):=Nl;rw[Zbg (by omega),ZcR _ _ _ _ _ _ _ _ _ hs] at Nm;exact Nm
  ·have A4:i<n:=by omega
   obtain⟨s,hs⟩:∃s,S[i]? =some s:=⟨_,YH (by omega)⟩;obtain⟨b,off,rfl,hb,hc,h0,h1,h2,h3,h4⟩:=hS i s hs;go_wp2;refine⟨⟨i+1,by omega,by push_cast;rfl,trivial⟩,by simp[intOf];omega⟩
end Go.Proofs.Tryq
section
namespace Go.Proofs.Tryq
open Go Go.Nk Go.RowKit
structure Ext(w w':World):Prop where
 size:w.heap.size<=w'.heap.size
 old:∀b,b<w.heap.size->w'.heap[b]? =w.heap[b]?
 tape:w'.tape=w.tape
 os:w'.os=w.os
 output:w'.output=w.output
namespace Ext
variable {w w' w'':World}
theorem rfl'(w:World):Ext w w:=⟨Nat.le_refl _,fun _ _=>rfl,rfl,rfl,rfl⟩
theorem trans(h:Ext w w')(h':Ext w' w''):Ext w w'':=⟨Nat.le_trans h.size h'.size,fun b hb=>(h'.old b (YS hb h.size)).trans (h.old b hb),h'.tape.trans h.tape,h'.os.trans h.os,h'.output.trans h.output⟩
theorem alloc(h:Ext w w')(o:Obj):Ext w (w'.alloc o):=by
 have e:(w'.alloc o).heap=w'.heap.push o:=rfl;exact⟨by rw[e];have:=h.size;simp;omega,fun b hb=>by rw[e,Array.getElem?_push,if_neg (by have:=h.size;omega)];exact h.old b hb,h.tape,h.os,h.output⟩
theorem setCell(h:Ext w w')(a:Addr)(v:Value)(ha:w.heap.size<=a.block):Ext w (w'.setCell a v):=by
 have hA:=Go.Conc.aside_setCell w' a v;exact⟨by rw[hA.size];exact h.size,fun b hb=>(hA.block b (by omega)).trans (h.old b hb),hA.tape.trans h.tape,hA.os.trans h.os,hA.output.trans h.output⟩
theorem drew(h:Ext w w'):Ext w w'.drew:=⟨h.size,h.old,h.tape,h.os,h.output⟩
theorem cell(h:Ext w w'){a:Addr}(ha:a.block<w.heap.size):w'.cell? a=w.cell? a:=by simp only[World.cell?,h.old _ ha]
theorem frozen(h:Ext w w'){a:Addr}(ha:a.block<w.heap.size):w'.frozen? a=w.frozen? a:=by simp only[World.frozen?,h.old _ ha]
theorem lt(h:Ext w w'){b:Nat}(hb:b<w.heap.size):b<w'.heap.size:=YS hb h.size
theorem get(h:Ext w w'){b:Nat}{o:Obj}(hb:w.heap[b]? =some o):w'.heap[b]? =some o:=(h.old b (YF.1 hb).1).trans hb
theorem cellS(h:Ext w w'){a:Addr}{v:Value}(hc:w.cell? a=some v):w'.cell? a=some v:=by
 refine(h.cell ?_).trans hc;unfold World.cell? at hc;split at hc
 ·rename_i hh;exact(YF.1 hh).1
 ·cases hc
end Ext
theorem Grew.ext{w w':World}{os:List Obj}(h:Grew w w' os):Ext w w':=⟨by rw[h.size];omega,h.old,h.tape,h.oss,h.output⟩
theorem Z0{w:World}{b:Nat}{c:Array Value}{e:TypeId}{f:Nat×Nat}(h:w.heap[b]? =some (.cells c e f))(i:Nat):w.cell? ⟨b,i,none⟩=c[i]? :=by simp[World.cell?,h]
theorem Z8{w:World}{b:Nat}{c:Array Value}{e:TypeId}(h:w.heap[b]? =some (.cells c e))(i:Nat):w.frozen? ⟨b,i,none⟩=false:=by simp[World.frozen?,h]
theorem Z5{w:World}{b:Nat}{o:Obj}(h:w.heap[b]? =some o):b<w.heap.size:=(YF.1 h).1
theorem Z3(w:World)(o:Obj)(b:Nat):(w.alloc o).heap[b]? =if b=w.heap.size then some o else w.heap[b]? :=by
 have e:(w.alloc o).heap=w.heap.push o:=rfl;rw[e,Array.getElem?_push]
theorem Z2(w:World)(o:Obj):(w.alloc o).heap.size=w.heap.size+1:=by
 have e:(w.alloc o).heap=w.heap.push o:=rfl;rw[e];simp
theorem Zc{w:World}{b:Nat}{x y:Value}{t:TypeId}(h:w.heap[b]? =some (.cells #[x,y] t)):w.cell? ⟨b,0,none⟩=some x/\w.cell? ⟨b,1,none⟩=some y/\w.frozen? ⟨b,0,none⟩=false/\w.frozen? ⟨b,1,none⟩=false:=
 ⟨Z0 h 0,Z0 h 1,Z8 h 0,Z8 h 1⟩
theorem Zb{w:World}{b i:Nat}{c:Array Value}{t:TypeId}(h:w.heap[b]? =some (.cells c t))(v:Value):(w.setCell ⟨b,i,none⟩ v).heap[b]? =some (.cells (c.setIfInBounds i v) t):=by
 rw[setCell_eq_setRow w b i c _ (0,0) _ h,setRow_heap w b _ _ _ _ h]
theorem set_ne{w:World}{a:Addr}{b:Nat}(h:b≠a.block)(v:Value):(w.setCell a v).heap[b]? =w.heap[b]? :=(Go.Conc.aside_setCell w a v).block b h
theorem set_pair{w:World}{b:Nat}{x y:Value}{t:TypeId}(h:w.heap[b]? =some (.cells #[x,y] t))(x' y':Value):((w.setCell ⟨b,0,none⟩ x').setCell ⟨b,1,none⟩ y').heap[b]? =some (.cells #[x',y'] t):=Zb (Zb h x') y'
structure Most(w:World):Prop where
 m0:w.cell? ⟨1,0,none⟩=some (.int .i64 (-1099511627776))
 m1:w.cell? ⟨1,1,none⟩=some (.int .i64 1099511627776)
theorem Most.ext{w w':World}(h:Most w)(e:Ext w w'):Most w':=⟨e.cellS h.m0,e.cellS h.m1⟩
structure Cv(w:World)(B n:Nat)(p:Nat->Nat)(C:Nat->Nat->Int×Int):Prop where
 ptr:∀i,i<n->w.cell? ⟨B,i,none⟩=some (.pointer (some ⟨p i,0,none⟩))
 lo:∀i d,i<n->d<=90->w.cell? ⟨p i,d*2,none⟩=some (.int .i64 (C i d).1)
 hi:∀i d,i<n->d<=90->w.cell? ⟨p i,d*2+1,none⟩=some (.int .i64 (C i d).2)
theorem Cv.ext{w w':World}{B n:Nat}{p:Nat->Nat}{C:Nat->Nat->Int×Int}(h:Cv w B n p C)(e:Ext w w'):Cv w' B n p C:=⟨fun i hi=>e.cellS (h.ptr i hi),fun i d hi hd=>e.cellS (h.lo i d hi hd),fun i d hi hd=>e.cellS (h.hi i d hi hd)⟩
end Go.Proofs.Tryq
end
namespace Go.Proofs.Tryq
open Go Go.Nk Go.RowKit
theorem Z1a(b:Bool)(f:Int)(w:World):Calls prog 109 #[.bool b,.int .i64 f] w fun e w'=>e= .returned (.int .i64 (if b then f else 0))/\w'=w:=by
 go_enter func109,ntmps109;go_wp2;all_goals (go_ret;simp_all)
theorem Z84(a b lo hi:Int)(w:World):Calls prog 129 #[.agg #[.int .i64 a,.int .i64 b],.int .i64 lo,.int .i64 hi] w fun e w'=>e= .returned (.bool (decide (lo<=a/\a<=b/\b<=hi)))/\Ext w w':=by
 go_enter func129,ntmps129;go_wp2
 all_goals
  go_ret;refine⟨?_,(Ext.rfl' w).alloc _⟩;rw[show∀x y:Value,Ending.returned x=Ending.returned y↔x=y from fun x y=>by simp];simp only[Array.getD_eq_getD_getElem?,YC,YA,YB,Option.getD_some];simp[*]
  try omega
theorem Z5w(B n cap:Nat)(hn:n<=8)(fv:Nat->FuncId)(av cv:Nat->Array Value)(I:Nat->World->Prop)(J:World->Prop)(r:Nat->Int)(w:World)
 (Bm:∀i,i<n->∀w',I i w'->w'.cell? ⟨B,i,none⟩=some (.func (.func (fv i)) (av i) (cv i)))
 (Db:∀i,i<n->∀args w',(callFunc (fv i) args).run prog w'= .ok (.enter (fv i) args) w')
 (Cm:∀i,i<n->∀w',I i w'->Calls prog (fv i) (av i++cv i) w' fun e w''=>e= .returned (.int .i64 (r i))/\(r i=0->I (i+1) w'')/\(r i≠0->J w''))
 (h0:I 0 w):Calls prog 90 #[.slice (some ⟨B,0,none⟩) n cap] w fun e w'=>∃v,e= .returned (.int .i64 v)/\((v=0/\I n w'/\∀i,i<n->r i=0)\/(∃i,i<n/\r i≠0/\v=r i/\(∀j,j<i->r j=0)/\J w')):=by
 go_enter func90,ntmps90;go_wp2;go_loopw [8] (fun v wr=>∃i:Nat,i<=n/\v= .int .i64 i/\I i wr/\∀j,j<i->r j=0) (fun v _=>n - (intOf v).toNat)
 case atStart=>exact⟨0,Nat.zero_le _,rfl,h0,fun j hj=>by omega⟩
 case round=>
  obtain⟨i,hi,rfl,hI,hz⟩:=hrel;by_cases Aw:i=n
  ·subst Aw;go_wp2;go_ret;exact⟨0,rfl,.inl ⟨rfl,hI,hz⟩⟩
  ·have A4:i<n:=by omega
   have hc:=Bm i A4 wr hI;have hen:=Db i A4;have hca:=Cm i A4 wr hI;clear Bm Db Cm;generalize fv i=f at hc hen hca
   go_wp2_with (
    first|(refine hca.mono ?_;rintro e w2 ⟨rfl,hI0,hJ⟩))
   ·rename_i A9;go_ret;simp at A9;exact⟨r i,rfl,.inr ⟨i,A4,A9,rfl,hz,hJ A9⟩⟩
   ·rename_i heq;simp at heq;refine⟨⟨i+1,by omega,by push_cast;rfl,hI0 heq,fun j hj=> ?_⟩,by simp[intOf];omega⟩;rcases Nat.lt_succ_iff_lt_or_eq.1 hj with h|rfl
    ·exact hz j h
    ·exact heq
end Go.Proofs.Tryq
namespace Go.Proofs.Tryq
set_option maxRecDepth 100000
set_option maxHeartbeats 4000000
open Go Go.Nk Go.RowKit
theorem Z7i(a b c d:Int)(w:World):Calls prog 114 #[.agg #[.int .i64 a,.int .i64 b],.agg #[.int .i64 c,.int .i64 d]] w fun e w'=>e= .returned (.agg #[.int .i64 (max a c),.int .i64 (min b d)])/\Ext w w':=by
 go_enter func114,ntmps114;go_wp2
 all_goals
  refine bodyPost_ret (v:= .agg #[.int .i64 (max a c),.int .i64 (min b d)]) ((Z07 rfl _ _ _).trans ?_) rfl ⟨rfl,(((Ext.rfl' w).alloc _).alloc _).alloc _⟩;simp[go_sem];omega
def has(set:Int)(i:Nat):Bool:=bits .and .i64 (set / 2 ^ i) 1==1
def atF(C:Nat->Nat->Int×Int)(set:Int)(d:Nat):Nat->Int×Int
 |0=>(-1099511627776,1099511627776)
 |i+1=>if has set i then(max (atF C set d i).1 (C i d).1,min (atF C set d i).2 (C i d).2) else atF C set d i
theorem Z2Y(r0 r1 r2 r3:Int)(sl:Value)(B n d:Nat)(set:Int)(p:Nat->Nat)(C:Nat->Nat->Int×Int)(hn:n<=8)(hd:d<=90)(hs:0<=set/\set<256)(w:World)(hm:Most w)(hC:Cv w B n p C):
 Calls prog 105 #[.agg #[.int .i64 r0,.int .i64 r1,.int .i64 r2,.int .i64 r3,sl,.slice (some ⟨B,0,none⟩) n n],.int .i64 set,.int .i64 d] w fun e w'=>
  e= .returned (.agg #[.int .i64 (atF C set d n).1,.int .i64 (atF C set d n).2])/\Ext w w':=by
 have hm':=hm;obtain⟨m0,m1⟩:=hm;have h1:1<w.heap.size:=by
  unfold World.cell? at m0;split at m0
  ·rename_i hh;exact Z5 hh
  ·cases m0
 have h11:1<w.heap.size+1:=by omega
 have hp:∀(v:World)(o:Obj)(off':Nat),1<v.heap.size->(v.alloc o).cell? ⟨1,off',none⟩=v.cell? ⟨1,off',none⟩:=fun v o off' h=>World.cell?_alloc_lt _ _ _ h
 have Wo:(0:Int)<=(d:Int):=by omega
 have hd1:(d:Int)<91:=by omega
 go_enter func105,ntmps105;go_wp2;go_loopw [14] (fun v wr=>∃i:Nat,i<=n/\v= .int .i64 i/\Ext w wr/\wr.heap[w.heap.size+1]? =some (.cells #[.int .i64 0,.int .i64 0] 48)/\wr.heap[w.heap.size+1+1]? =some (.cells #[.int .i64 (atF C set d i).1,.int .i64 (atF C set d i).2] 48)) (fun v _=>n - (intOf v).toNat)
 case atStart=>
  refine⟨0,Nat.zero_le _,rfl,(((Ext.rfl' w).alloc _).alloc _).alloc _,?_,?_⟩
  ·simp only[Z3,Z2];rw[if_neg (by omega),if_pos trivial]
  ·simp only[Z3,Z2];rw[if_pos trivial];rfl
 case round=>
  obtain⟨i,hi,rfl,hE,ho,hx⟩:=hrel;have hC':=hC.ext hE;have Az:=hE.size;obtain⟨x0,x1,y0,y1⟩:=Zc hx;obtain⟨z0,z1,u0,u1⟩:=Zc ho;have hlx:=Z5 hx;clear hp m0 m1 h11;by_cases Aw:i=n
  ·subst Aw;go_wp2;refine bodyPost_ret (v:= .agg #[.int .i64 (atF C set d i).1,.int .i64 (atF C set d i).2]) ((Z07 rfl _ _ _).trans ?_) rfl ⟨rfl,(hE.setCell _ _ (by simp)).setCell _ _ (by simp)⟩;have hq:=Zc (set_pair ho (.int .i64 (atF C set d i).1) (.int .i64 (atF C set d i).2));simp[go_sem,hq.1,hq.2.1]
  ·have A4:i<n:=by omega
   have hpt:=hC'.ptr i A4;have Ib:=hC'.lo i d A4 hd;have hhi:=hC'.hi i d A4 hd;have R1:p i<wr.heap.size:=by
    unfold World.cell? at Ib;split at Ib
    ·rename_i hh;exact Z5 hh
    ·cases Ib
   go_wp2
   ·rename_i hbit
    go_region_with (
     first|(go_at_call 114;refine(Z7i _ _ _ _ _).mono ?_;rintro e w2 ⟨rfl,A8⟩;have G5:=(Ext.rfl' wr).drew.trans A8;have Bv:=Zc (G5.get hx);have I1:=Zc (G5.get ho);have x20:=Bv.1;have x21:=Bv.2.1;have y20:=Bv.2.2.1;have y21:=Bv.2.2.2;have hlo2:=G5.cellS Ib;have hhi2:=G5.cellS hhi;clear Bv I1 A8))
    all_goals
     go_wp2;have Av:=hE.trans G5;refine⟨⟨i+1,by omega,by push_cast;rfl,(Av.setCell _ _ (by show w.heap.size<=w.heap.size+1+1;omega)).setCell _ _ (by show w.heap.size<=w.heap.size+1+1;omega),?_,?_⟩,by simp[intOf];omega⟩
     ·rw[set_ne (by simp),set_ne (by simp)];exact G5.get ho
     ·rw[set_pair (G5.get hx)];simp only[atF,has,hbit,if_true]
   ·rename_i hbit;refine⟨⟨i+1,by omega,by push_cast;rfl,hE,ho,?_⟩,by simp[intOf];omega⟩;rw[hx];simp only[atF,has,hbit,YR,if_false]
def Z22(C:Nat->Nat->Int×Int)(set:Int)(n:Nat)(k:Nat):Bool:=(List.range k).all fun d=>decide ((atF C set d n).1<=(atF C set d n).2)
def Zz(C:Nat->Nat->Int×Int)(set:Int)(n:Nat):Bool:=Z22 C set n 91
theorem Z2b{C:Nat->Nat->Int×Int}{set:Int}{n k:Nat}:Z22 C set n (k+1)=(Z22 C set n k&&decide ((atF C set k n).1<=(atF C set k n).2)):=by
 simp[Z22,List.range_succ]
theorem Z5x{C:Nat->Nat->Int×Int}{set:Int}{n k m:Nat}(h:Z22 C set n k=false)(Kl:k<=m):Z22 C set n m=false:=by
 induction Kl with
 |refl=>exact h
 |step _ ih=>rw[Z2b,ih];rfl
theorem Z7j(r0 r1 r2 r3:Int)(sl:Value)(B n:Nat)(set:Int)(p:Nat->Nat)(C:Nat->Nat->Int×Int)(hn:n<=8)(hs:0<=set/\set<256)(w:World)(hm:Most w)(hC:Cv w B n p C):
 Calls prog 124 #[.agg #[.int .i64 r0,.int .i64 r1,.int .i64 r2,.int .i64 r3,sl,.slice (some ⟨B,0,none⟩) n n],.int .i64 set] w fun e w'=>
  e= .returned (.bool (Zz C set n))/\Ext w w':=by
 go_enter func124,ntmps124;go_wp2;have A3:=hn;go_loopw [7] (fun v wr=>∃d:Nat,d<=91/\v= .int .i64 d/\Ext w wr/\wr.heap[w.heap.size]? =some (.cells #[.int .i64 r0,.int .i64 r1,.int .i64 r2,.int .i64 r3,sl,.slice (some ⟨B,0,none⟩) n n] 146)/\Z22 C set n d=true) (fun v _=>91 - (intOf v).toNat)
 case atStart=>
  refine⟨0,Nat.zero_le _,rfl,(Ext.rfl' w).alloc _,?_,rfl⟩;rw[Z3,if_pos rfl]
 case round=>
  obtain⟨d,hd,rfl,hE,Cx,hf⟩:=hrel;have c0:=Z0 Cx 0;have c1:=Z0 Cx 1;have c2:=Z0 Cx 2;have c3:=Z0 Cx 3;have c4:=Z0 Cx 4;have c5:=Z0 Cx 5;simp only[YC,YA,YB] at c0 c1 c2 c3 c4 c5;by_cases Wp:d=91
  ·subst Wp;go_wp2;go_ret;exact⟨by rw[Zz,hf];rfl,hE⟩
  ·have A4:d<=90:=by omega
   have hat:=Z2Y r0 r1 r2 r3 sl B n d set p C hn A4 hs wr (hm.ext hE) (hC.ext hE)
   go_wp2_with (
    go_at_call 105
    refine hat.mono ?_;rintro e w2 ⟨rfl,A8⟩;have Av:=hE.trans A8;have R2:=A8.get Cx;clear hat c0 c1 c2 c3 c4 c5)
   ·rename_i Lu;go_ret;refine⟨?_,(Av.alloc _)⟩;have h1:Z22 C set n (d+1)=false:=(by rw[Z2b,hf];simp at Lu⊢;omega);rw[Zz,Z5x h1 (by omega)];rfl
   ·rename_i Bc;refine⟨⟨d+1,by omega,by push_cast;rfl,Av.alloc _,(by rw[Z3,if_neg (by have:=Z5 R2;omega)];exact R2),?_⟩,by simp[intOf];omega⟩;rw[Z2b,hf];simp at Bc⊢;omega
end Go.Proofs.Tryq
namespace Go.Proofs.Tryq
set_option maxRecDepth 100000
set_option maxHeartbeats 1000000
open Go Go.Nk Go.RowKit
theorem ZdV(f:Sh->List Obj)(hf:∀s,(f s).length=5):∀(S:List Sh)(k j:Nat),j<5->(S.flatMap f)[5*k+j]? =(S[k]?).bind fun s=>(f s)[j]? :=by
 intro S
 induction S with
 |nil=>intro k j _;simp
 |cons s S ih=>
  intro k j hj;rw[List.flatMap_cons];cases k with
  |zero=>
   rw[List.getElem?_append_left (by rw[hf];omega)];simp
  |succ k=>
   rw[List.getElem?_append_right (by rw[hf];omega),hf];rw[show 5*(k+1)+j - 5=5*k+j by omega,ih k j hj];simp
theorem Cv.set{w:World}{B n:Nat}{p:Nat->Nat}{C:Nat->Nat->Int×Int}(h:Cv w B n p C){a:Addr}(hB:B≠a.block)(hp:∀i,p i≠a.block)(v:Value):Cv (w.setCell a v) B n p C:=by
 have key:∀b i,b≠a.block->(w.setCell a v).cell? ⟨b,i,none⟩=w.cell? ⟨b,i,none⟩:=fun b i hb=>by simp only[World.cell?,set_ne (w:=w) (a:=a) (b:=b) hb v]
 exact⟨fun i hi=>(key _ _ hB).trans (h.ptr i hi),fun i d hi hd=>(key _ _ (hp i)).trans (h.lo i d hi hd),fun i d hi hd=>(key _ _ (hp i)).trans (h.hi i d hi hd)⟩
def cvS(r0 r1 r2 r3:Int)(S:List Sh)(i d:Nat):Int×Int:=match S[i]? with
 |some s=>atC (shL r2 r3 s) (shH r2 r3 s) r0 r1 s.c d
 |none=>(0,0)
theorem cv_of{w w':World}{cc:Array Value}{r0 r1 r2 r3:Int}{S:List Sh}{n:Nat}(A3:S.length=n)(h:Grew w w' (kO cc r0 r1 r2 r3 S w.heap.size n)):Cv w' w.heap.size n (fun i=>w.heap.size+(1+5*i+1)) (cvS r0 r1 r2 r3 S):=by
 have hl:(kO cc r0 r1 r2 r3 S w.heap.size n).length=1+5*n:=Z0Z _ _ _ _ _ _ _ _ (by omega);have h0:w'.heap[w.heap.size]? =some (.cells (ZH w.heap.size n n) 188):=by
  have:=h.new 0 (by omega);rw[Nat.add_zero] at this;rw[this,<-A3];simp only[kO,YA]
 have hk:∀i,i<n->∃s,S[i]? =some s/\w'.heap[w.heap.size+(1+5*i+1)]? =some (.cells (part (shL r2 r3 s) (shH r2 r3 s) r0 r1 s.c 0 91) 224):=by
  intro i hi;obtain⟨s,hs⟩:∃s,S[i]? =some s:=⟨_,YH (by omega)⟩;refine⟨s,hs,?_⟩;rw[h.new _ (by omega),show 1+5*i+1=(5*i+1)+1 by omega];simp only[kO,YB];rw[<-A3,List.take_length,ZdV _ (fun _=>rfl) S i 1 (by omega),hs];rfl
 refine⟨fun i hi=> ?_,fun i d hi hd=> ?_,fun i d hi hd=> ?_⟩
 ·rw[Z0 h0,Z19 hi,if_pos hi];congr 4;omega
 ·obtain⟨s,hs,hb⟩:=hk i hi;rw[Z0 hb,Z1j _ _ _ _ _ _ _ hd (by omega) (by omega)];simp only[cvS,hs]
 ·obtain⟨s,hs,hb⟩:=hk i hi;rw[Z0 hb,Z1R _ _ _ _ _ _ _ hd (by omega) (by omega)];simp only[cvS,hs]
theorem Z08(r0 r1 r2 r3:Int)(base:Option Addr)(n cap:Nat)(v:Value)(hn:n<=8)(w:World):
 Calls prog 106 #[.agg #[.int .i64 r0,.int .i64 r1,.int .i64 r2,.int .i64 r3,.slice base n cap,v]] w fun e w'=>e= .returned (.int .i64 (2 ^ n - 1))/\Ext w w':=by
 have Gu:(0:Int)<=(n:Int):=by omega
 have hn64:(n:Int)<64:=by omega
 go_enter func106,ntmps106;go_wp2;have e:wrap64 (wrap64 (2 ^ n) - 1)=2 ^ n - 1:=by
  obtain rfl|rfl|rfl|rfl|rfl|rfl|rfl|rfl|rfl:n=0\/n=1\/n=2\/n=3\/n=4\/n=5\/n=6\/n=7\/n=8:=by omega
  all_goals (unfold wrap64;rfl)
 rw[e];go_ret;exact⟨rfl,(Ext.rfl' w).alloc _⟩
theorem Shots.ext{w w':World}{base:Option Addr}{S:List Sh}(h:Shots w base S)(e:Ext w w'):Shots w' base S:=by
 intro i s hi;obtain⟨b,off,h1,h2,h3,h4⟩:=h i s hi;exact⟨b,off,h1,e.lt h2,h3,e.cellS h4.c0,e.cellS h4.c1,e.cellS h4.c2,e.cellS h4.c3,e.cellS h4.c4⟩
theorem Z2c(r0 r1 r2 r3:Int)(base:Option Addr)(cap:Nat)(w:World)(S:List Sh)(n:Nat)(A3:S.length=n)(hn:n<=8)(hS:Shots w base S):
 Calls prog 123 #[.agg (Zh r0 r1 r2 r3 base n cap)] w fun e w'=>∃B p,e= .returned (.agg #[.int .i64 r0,.int .i64 r1,.int .i64 r2,.int .i64 r3,.slice base n cap,.slice (some ⟨B,0,none⟩) n n])/\Ext w w'/\Cv w' B n p (cvS r0 r1 r2 r3 S)/\w.heap.size<=B/\∀i,w.heap.size<=p i:=by
 have hc:=curves_any r0 r1 r2 r3 base cap;simp only[Zh] at hc⊢;go_enter func123,ntmps123;go_wp2
 have hE:Ext w ((w.alloc (Obj.cells #[Value.int IntKind.i64 r0,Value.int IntKind.i64 r1,Value.int IntKind.i64 r2,Value.int IntKind.i64 r3,Value.slice base n cap] 70)).alloc
  (Obj.cells #[Value.int IntKind.i64 0,Value.int IntKind.i64 0,Value.int IntKind.i64 0,Value.int IntKind.i64 0,Value.slice none 0 0,Value.slice none 0 0] 146)):=((Ext.rfl' w).alloc _).alloc _
 have hb:((w.alloc (Obj.cells #[Value.int IntKind.i64 r0,Value.int IntKind.i64 r1,Value.int IntKind.i64 r2,Value.int IntKind.i64 r3,Value.slice base n cap] 70)).alloc
  (Obj.cells #[Value.int IntKind.i64 0,Value.int IntKind.i64 0,Value.int IntKind.i64 0,Value.int IntKind.i64 0,Value.slice none 0 0,Value.slice none 0 0] 146)).heap[w.heap.size]? =some (Obj.cells #[Value.int IntKind.i64 r0,Value.int IntKind.i64 r1,Value.int IntKind.i64 r2,Value.int IntKind.i64 r3,Value.slice base n cap] 70):=by
  simp only[Z3,Z2];rw[if_neg (by omega),if_pos trivial]
 have ho:((w.alloc (Obj.cells #[Value.int IntKind.i64 r0,Value.int IntKind.i64 r1,Value.int IntKind.i64 r2,Value.int IntKind.i64 r3,Value.slice base n cap] 70)).alloc
  (Obj.cells #[Value.int IntKind.i64 0,Value.int IntKind.i64 0,Value.int IntKind.i64 0,Value.int IntKind.i64 0,Value.slice none 0 0,Value.slice none 0 0] 146)).heap[w.heap.size+1]? =some (Obj.cells #[Value.int IntKind.i64 0,Value.int IntKind.i64 0,Value.int IntKind.i64 0,Value.int IntKind.i64 0,Value.slice none 0 0,Value.slice none 0 0] 146):=by
  simp only[Z3,Z2];rw[if_pos trivial]
 generalize ((w.alloc (Obj.cells #[Value.int IntKind.i64 r0,Value.int IntKind.i64 r1,Value.int IntKind.i64 r2,Value.int IntKind.i64 r3,Value.slice base n cap] 70)).alloc
  (Obj.cells #[Value.int IntKind.i64 0,Value.int IntKind.i64 0,Value.int IntKind.i64 0,Value.int IntKind.i64 0,Value.slice none 0 0,Value.slice none 0 0] 146))=w2 at hE hb ho⊢
 have Fx:=hS.ext hE;have b0:=Z0 hb 0;have b1:=Z0 hb 1;have b2:=Z0 hb 2;have b3:=Z0 hb 3;have b4:=Z0 hb 4;simp only[YC,YA,YB] at b0 b1 b2 b3 b4
 go_region_with (
  first|(go_at_call 155;refine(hc _ S n A3 hn (Fx.ext (Ext.rfl' w2).drew)).mono ?_;rintro e w3 ⟨rfl,hG⟩;have Av:=(Ext.rfl' w2).drew.trans hG.ext;have Br:=Av.get hb;have G6:=Av.get ho;have q0:=Z0 Br 0;have q1:=Z0 Br 1;have q2:=Z0 Br 2;have q3:=Z0 Br 3;have q4:=Z0 Br 4;have o0:=Z0 G6 0;have o1:=Z0 G6 1;have o2:=Z0 G6 2;have o3:=Z0 G6 3;have o4:=Z0 G6 4;have o5:=Z0 G6 5;have z0:=Z8 G6 0;have z1:=Z8 G6 1;have z2:=Z8 G6 2;have z3:=Z8 G6 3;have z4:=Z8 G6 4;have z5:=Z8 G6 5;have hcv:=cv_of A3 hG;simp only[YC,YA,YB] at q0 q1 q2 q3 q4 o0 o1 o2 o3 o4 o5))
 all_goals
  go_wp2;have I0:=Z5 ho;have g0:=Zb G6 (i:=0) (.int .i64 r0);have g1:=Zb g0 (i:=1) (.int .i64 r1);have g2:=Zb g1 (i:=2) (.int .i64 r2);have g3:=Zb g2 (i:=3) (.int .i64 r3);have g4:=Zb g3 (i:=4) (.slice base n cap);have g5:=Zb g4 (i:=5) (.slice (some ⟨w2.heap.size,0,none⟩) n n);have ge:=hE.trans Av;have hh:w.heap.size<=w.heap.size+1:=by omega
  have A9:w2.drew.heap.size≠w.heap.size+1:=by show w2.heap.size≠_;omega
  have Gd:∀i,w2.drew.heap.size+(1+5*i+1)≠w.heap.size+1:=fun i=>by show w2.heap.size+_≠_;omega
  refine bodyPost_ret (v:= .agg #[.int .i64 r0,.int .i64 r1,.int .i64 r2,.int .i64 r3,.slice base n cap,.slice (some ⟨w2.heap.size,0,none⟩) n n]) ((Z07 rfl _ _ _).trans ?_) rfl ⟨w2.heap.size,fun i=>w2.heap.size+(1+5*i+1),rfl,(((((ge.setCell _ _ hh).setCell _ _ hh).setCell _ _ hh).setCell _ _ hh).setCell _ _ hh).setCell _ _ hh,(((((hcv.set A9 Gd _).set A9 Gd _).set A9 Gd _).set A9 Gd _).set A9 Gd _).set A9 Gd _,hE.size,fun i=>Nat.le_trans hE.size (Nat.le_add_right _ _)⟩;have s0:=Z0 g5 0;have s1:=Z0 g5 1;have s2:=Z0 g5 2;have s3:=Z0 g5 3;have s4:=Z0 g5 4;have s5:=Z0 g5 5;simp at s0 s1 s2 s3 s4 s5;simp[go_sem,s0,s1,s2,s3,s4,s5]
def okN(n hi:Int):Bool:=decide (0<=n/\n<=hi)
def Z9s(r0 r1 r2 r3:Int):Nat->Int
 |0=>r0
 |1=>r1
 |2=>r2
 |_=>r3
theorem f143(r0 r1 r2 r3:Int)(i:Nat)(hi:i<4)(w:World):(Instr.index 190 (.agg #[.int .i64 r0,.int .i64 r1,.int .i64 r2,.int .i64 r3]) (.int .i64 i)).run prog w= .ok (.int .i64 (Z9s r0 r1 r2 r3 i)) w:=by
 obtain rfl|rfl|rfl|rfl:i=0\/i=1\/i=2\/i=3:=by omega
 all_goals
  unfold Instr.index Go.part;simp[go_sem,run_asAgg,asIntOf,Z9s]
theorem Z10{a b:Int}(h:a=b):Ending.returned (.int .i64 a)=Ending.returned (.int .i64 b):=by rw[h]
def Z5y(r0 r1 r2 r3:Int):Int:=if okN r0 999&&okN r1 999&&okN r2 999&&okN r3 999&&decide (r0<=r1) then 0 else 1
theorem Zbh(r0 r1 r2 r3:Int)(base:Option Addr)(n cap:Nat)(w:World):Calls prog 121 #[.agg (Zh r0 r1 r2 r3 base n cap)] w fun e w'=>e= .returned (.int .i64 (Z5y r0 r1 r2 r3))/\Ext w w':=by
 simp only[Zh];go_enter func121,ntmps121;go_wp2;go_loopw [18] (fun v wr=>∃i:Nat,i<=4/\v= .int .i64 i/\wr.heap[w.heap.size+1]? =some (.cells #[.int .i64 r0,.int .i64 r1,.int .i64 r2,.int .i64 r3] 67)/\Ext w wr/\∀j,j<i->okN (Z9s r0 r1 r2 r3 j) 999=true) (fun v _=>4 - (intOf v).toNat)
 case atStart=>
  refine⟨0,Nat.zero_le _,rfl,?_,((Ext.rfl' w).alloc _).alloc _,fun j hj=>by omega⟩;simp only[Z3,Z2];rw[if_pos trivial]
 case round=>
  obtain⟨i,hi,rfl,hr,hE,hz⟩:=hrel;have q0:=Z0 hr 0;have q1:=Z0 hr 1;simp only[YC,YA,YB] at q0 q1;by_cases Aw:i=4
  ·subst Aw;have h0:=hz 0 (by omega);have h1:=hz 1 (by omega);have h2:=hz 2 (by omega);have h3:=hz 3 (by omega);clear hz;simp only[Z9s] at h0 h1 h2 h3;go_wp2_with (first|(go_at_call 109;refine(Z1a _ _ _).mono ?_;rintro e w2 ⟨rfl,rfl⟩))
   all_goals
    go_ret;refine⟨?_,hE⟩;simp only[Z5y,h0,h1,h2,h3,Bool.true_and,Bool.and_self];simp;omega
  ·have A4:i<4:=by omega
   have hix:=fun w=>f143 r0 r1 r2 r3 i A4 w
   go_wp2_with (first|(go_at_call 110;refine(Z09 _ _ _ _).mono ?_;rintro e w2 ⟨rfl,rfl⟩))
   ·rename_i hb;go_ret;refine⟨Z10 (a:=1) ?_,hE⟩;simp at hb;rw[Z5y,if_neg];simp only[okN];simp;intro h0 h0' h1 h1' h2 h2' h3 h3';obtain rfl|rfl|rfl|rfl:i=0\/i=1\/i=2\/i=3:=(by omega);all_goals simp only[Z9s] at hb
    all_goals omega
   ·rename_i hb;simp at hb;refine⟨⟨i+1,by omega,by push_cast;rfl,hr,hE,?_⟩,by simp[intOf];omega⟩
    ·intro j hj;rcases Nat.lt_succ_iff_lt_or_eq.1 hj with h|rfl
     ·exact hz j h
     ·simp only[okN];simp;omega
structure Rs where
 a:Int
 m:Int
 M:Int
 wi:Int
 li:Int
def RawS(w:World)(base:Option Addr)(S:List Rs):Prop:=∀(i:Nat)(s:Rs),S[i]? =some s->∃b off,base=some ⟨b,off,none⟩/\b<w.heap.size/\ShotAt w b (off+i*5) s.a s.m s.M s.wi s.li
theorem RawS.ext{w w':World}{base:Option Addr}{S:List Rs}(h:RawS w base S)(e:Ext w w'):RawS w' base S:=by
 intro i s hi;obtain⟨b,off,h1,h2,h4⟩:=h i s hi;exact⟨b,off,h1,e.lt h2,e.cellS h4.c0,e.cellS h4.c1,e.cellS h4.c2,e.cellS h4.c3,e.cellS h4.c4⟩
def okS(s:Rs):Bool:=okN s.a 90&&decide (0<=s.m/\s.m<=s.M/\s.M<=99999)&&okN s.wi 9&&okN s.li 9
def Z23(S:List Rs):Int:=if 8<S.length then 2 else if S.all okS then 0 else 1
theorem Z85{S:List Rs}{i:Nat}{s:Rs}(hs:S[i]? =some s)(h:okS s=false)(hn:¬8<S.length):Z23 S=1:=by
 rw[Z23,if_neg hn,if_neg];rw[YL];intro ha;have:=ha s (YQ hs);rw[h] at this;cases this
theorem Z9t(r0 r1 r2 r3:Int)(base:Option Addr)(n cap:Nat)(S:List Rs)(w:World)(A3:S.length=n)(hS:RawS w base S):Calls prog 122 #[.agg (Zh r0 r1 r2 r3 base n cap)] w fun e w'=>e= .returned (.int .i64 (Z23 S))/\Ext w w':=by
 simp only[Zh];go_enter func122,ntmps122;go_wp2
 ·rename_i Lu;go_ret;refine⟨Z10 (a:=2) ?_,(Ext.rfl' w).alloc _⟩;rw[Z23,if_pos (by omega)]
 ·rename_i Bc;go_loopw [14] (fun v wr=>∃i:Nat,i<=n/\v= .int .i64 i/\Ext w wr/\∀j s,j<i->S[j]? =some s->okS s=true) (fun v _=>n - (intOf v).toNat)
  case atStart=>
   exact⟨0,Nat.zero_le _,rfl,((Ext.rfl' w).alloc _),fun j s hj=>by omega⟩
  case round=>
   obtain⟨i,hi,rfl,hE,hz⟩:=hrel;have hS':=hS.ext hE;by_cases Aw:i=n
   ·subst Aw;go_wp2;go_ret;refine⟨Z10 (a:=0) ?_,hE⟩;rw[Z23,if_neg (by omega),if_pos];rw[YL];intro s hs;obtain⟨j,hj,he⟩:=List.mem_iff_getElem.1 hs;exact hz j s (by omega) (by rw[<-he];exact YH hj)
   ·have A4:i<n:=(by omega);obtain⟨s,hs⟩:∃s,S[i]? =some s:=⟨_,YH (by omega)⟩;obtain⟨b,off,rfl,hb,c0,c1,c2,c3,c4⟩:=hS' i s hs;clear hS hS';go_wp2;all_goals (try simp only[Bool.not_eq_true',Bool.not_eq_false',decide_eq_false_iff_not,decide_eq_true_eq] at*)
    all_goals first
     |(go_ret
       refine⟨Z10 (a:=1) (Z85 hs ?_ (by omega)).symm,by first|exact(hE.alloc _).alloc _|exact hE.alloc _⟩;rw[Bool.eq_false_iff];intro h;simp[okS,okN] at h;omega)
     |(refine⟨⟨i+1,by omega,by push_cast;rfl,(by first|exact(hE.alloc _).alloc _|exact hE.alloc _),fun j s' hj hs'=> ?_⟩,by simp[intOf];omega⟩
       rcases Nat.lt_succ_iff_lt_or_eq.1 hj with h|rfl
       ·exact hz j s' h hs'
       ·obtain rfl:s=s':=(by rw[hs] at hs';exact YT hs');simp[okS,okN];omega)
def firstV:List Int->Int
 |[]=>0
 |x::l=>if x=0 then firstV l else x
theorem firstV_zero:∀{l:List Int},(∀(i:Nat)(x:Int),l[i]? =some x->x=0)->firstV l=0
 |[],_=>rfl
 |x::l,h=>by
  have h0:=h 0 x rfl;rw[firstV,if_pos h0];exact firstV_zero fun i y hy=>h (i+1) y hy
theorem firstV_at:∀{l:List Int}{i:Nat}{x:Int},l[i]? =some x->x≠0->(∀(j:Nat)(y:Int),j<i->l[j]? =some y->y=0)->firstV l=x
 |[],i,x,h,_,_=>by simp at h
 |y::l,0,x,h,hx,_=>by
  simp at h;subst h;rw[firstV,if_neg hx]
 |y::l,i+1,x,h,hx,hz=>by
  rw[firstV,if_pos (hz 0 y (by omega) rfl)];exact firstV_at h hx fun j z hj hz'=>hz (j+1) z (by omega) hz'
theorem Z1S(B n cap:Nat)(fv:Nat->FuncId)(av cv:Nat->Array Value)(r:List Int)(hr:r.length=n)(hn:n<=8)(w:World)
 (Bm:∀i,i<n->w.cell? ⟨B,i,none⟩=some (.func (.func (fv i)) (av i) (cv i)))
 (Db:∀i,i<n->∀args w',(callFunc (fv i) args).run prog w'= .ok (.enter (fv i) args) w')
 (Cm:∀i x,r[i]? =some x->∀w',Ext w w'->Calls prog (fv i) (av i++cv i) w' fun e w''=>e= .returned (.int .i64 x)/\Ext w' w''):
 Calls prog 90 #[.slice (some ⟨B,0,none⟩) n cap] w fun e w'=>e= .returned (.int .i64 (firstV r))/\Ext w w':=by
 have hg:∀i,i<n->r[i]? =some (r.getD i 0):=fun i hi=>by
  rw[List.getD_eq_getElem?_getD,YH (by omega)];rfl
 refine(Z5w B n cap hn fv av cv (fun _ w'=>Ext w w') (fun w'=>Ext w w') (fun i=>r.getD i 0) w (fun i hi w' hE=>hE.cellS (Bm i hi)) Db ?_ (Ext.rfl' w)).mono ?_
 ·intro i hi w' hE;refine(Cm i _ (hg i hi) w' hE).mono ?_;rintro e w'' ⟨rfl,A8⟩;exact⟨rfl,fun _=>hE.trans A8,fun _=>hE.trans A8⟩
 ·rintro e w' ⟨v,rfl,⟨rfl,hE,hz⟩|⟨i,hi,A9,rfl,hz,hE⟩⟩
  ·refine⟨?_,hE⟩;rw[firstV_zero];intro i x hx;have hi:=(YI.1 hx).1;have:=hz i (by omega);rw[List.getD_eq_getElem?_getD,hx] at this;exact this
  ·refine⟨?_,hE⟩;rw[firstV_at (hg i hi) A9];intro j y hj hy;have:=hz j hj;rw[List.getD_eq_getElem?_getD,hy] at this;exact this
def ZC(r0 r1 r2 r3:Int)(S:List Rs):Int:=firstV [Z5y r0 r1 r2 r3,Z23 S]
theorem Z0U(r0 r1 r2 r3:Int)(base:Option Addr)(n cap:Nat)(S:List Rs)(w:World)(A3:S.length=n)(hS:RawS w base S):
 Calls prog 62 #[.agg (Zh r0 r1 r2 r3 base n cap)] w fun e w'=>e= .returned (.int .i64 (ZC r0 r1 r2 r3 S))/\Ext w w':=by
 simp only[Zh];go_enter func62,ntmps62
 go_wp2_with (
  go_at_call 90
  have hE:Ext w _:=(((Ext.rfl' w).alloc (.cells #[.int .i64 r0,.int .i64 r1,.int .i64 r2,.int .i64 r3,.slice base n cap] 70)).alloc (.cells #[.int .i64 r0,.int .i64 r1,.int .i64 r2,.int .i64 r3,.slice base n cap] 143)).alloc (.cells #[.func (.func 121) #[.agg #[.int .i64 r0,.int .i64 r1,.int .i64 r2,.int .i64 r3,.slice base n cap]] #[],.func (.func 122) #[.agg #[.int .i64 r0,.int .i64 r1,.int .i64 r2,.int .i64 r3,.slice base n cap]] #[]] 127);have hb:=Z3 ((w.alloc (.cells #[.int .i64 r0,.int .i64 r1,.int .i64 r2,.int .i64 r3,.slice base n cap] 70)).alloc (.cells #[.int .i64 r0,.int .i64 r1,.int .i64 r2,.int .i64 r3,.slice base n cap] 143)) (.cells #[.func (.func 121) #[.agg #[.int .i64 r0,.int .i64 r1,.int .i64 r2,.int .i64 r3,.slice base n cap]] #[],.func (.func 122) #[.agg #[.int .i64 r0,.int .i64 r1,.int .i64 r2,.int .i64 r3,.slice base n cap]] #[]] 127) (w.heap.size+1+1);rw[if_pos (by simp only[Z2])] at hb;generalize World.alloc _ _=w1 at hE hb⊢;refine(Z1S (w.heap.size+1+1) 2 2 (fun i=>if i=0 then 121 else 122) (fun i=> #[.agg #[.int .i64 r0,.int .i64 r1,.int .i64 r2,.int .i64 r3,.slice base n cap]]) (fun i=> #[]) [Z5y r0 r1 r2 r3,Z23 S] rfl (by omega) w1 ?_ ?_ ?_).mono ?_
  ·intro i hi;rw[Z0 hb];obtain rfl|rfl:i=0\/i=1:=by omega
   ·rfl
   ·rfl
  ·intro i hi args w';obtain rfl|rfl:i=0\/i=1:=by omega
   ·simp[go_sem]
   ·simp[go_sem]
  ·intro i x hx w' hE'
   match i,hx with
   |0,hx=>
    obtain rfl:=YT hx;exact Zbh r0 r1 r2 r3 base n cap w'
   |1,hx=>
    obtain rfl:=YT hx;exact Z9t r0 r1 r2 r3 base n cap S w' A3 (hS.ext (hE.trans hE'))
  rintro e w2 ⟨rfl,A8⟩)
 go_ret;exact⟨rfl,hE.trans A8⟩
end Go.Proofs.Tryq
