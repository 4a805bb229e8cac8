import Derived.Test.YthahddndgbpooaaGreatDoorNk04
import Derived.Deep.RegionWith
set_option linter.all false
set_option maxRecDepth 100000
set_option maxHeartbeats 4000000
open Go
open Option renaming some->U,none->Z
open Go.IntKind renaming i64->J
open Go.Value renaming slice->I,int->NE,pointer->NI,agg->NJ
open Go.Obj renaming cells->NH
open Go renaming World->NL,Value->NM,Calls->NW,Addr->NP,TypeId->NT
open Go.Ending renaming returned->NK
open Bool renaming false->ND
variable {cc:Array NM}{B a' b bs d' j k m n:Nat}{p:Nat->Nat}{o:Obj}{e t:NT}{o0 o1 o2 o3 o4 o5 x y:NM}{w w' w'':NL}
namespace Go.Proofs.Tryq
open Go Go.Nk Go.RowKit
def Grew.drew{w w':NL}{f:List Obj}(h:Grew w w' f):Grew w w'.drew f:=⟨h.size,h.old,h.new,h.tape,h.oss,h.output⟩
def Grew.cellNew{u:List Obj}(h:Grew w w' u)(j:Nat){C:Array NM}{e:NT}{f:Nat×Nat}(g:u[j]? =U (.cells C e f))(i:Nat):w'.cell? ⟨w.heap.size+j,i,Z⟩=C[i]? :=by
 have:=h.new j (YI.1 g).1;rw[g]at this;simp[World.cell?,this]
def Grew.thaw{g:List Obj}(h:Grew w w' g)(j:Nat){C:Array NM}{e:NT}(f:g[j]? =U (NH C e))(i:Nat):w'.frozen? ⟨w.heap.size+j,i,Z⟩=ND:=by
 have:=h.new j (YI.1 f).1;rw[f]at this;simp[World.frozen?,this]
def Grew.setCell{w w':NL}{g:List Obj}(h:Grew w w' g)(j:Nat){C:Array NM}{e:NT}(u:g[j]? =U (NH C e))(i:Nat)(v:NM):Grew w (w'.setCell ⟨w.heap.size+j,i,Z⟩ v) (g.set j (NH (C.setIfInBounds i v) e)):=by
 have A:=(YI.1 u).1;have E:=h.new j A;rw[u]at E;refine⟨by simp[World.setCell,h.size],λb F=> ?_,λz f=> ?_,h.tape,h.oss,h.output⟩
 .simp only[World.setCell,Array.getElem?_modify];rw[XB OA];exact h.old b F
 .simp only[List.length_set]at f;simp only[World.setCell,Array.getElem?_modify];by_cases e:j=z
  .subst e;rw[YZ rfl,E,List.getElem?_set_self A];rfl
  .rw[XB OA,h.new z f,List.getElem?_set_ne e]
def upI(l r:Int):Nat->Int
 |0=>l
 |n+1=>wrap64 (upI l r n+r)
def dnI(l r:Int):Nat->Int
 |0=>l
 |n+1=>wrap64 (dnI l r n - r)
def atC(l h r0 r1:Int)(c d:Nat):Int×Int:=if c<=d then(upI l r0 (d - c),upI h r1 (d - c))else(dnI l r1 (c - d),dnI h r0 (c - d))
def part(l h r0 r1:Int)(c a d:Nat):Array NM:=((List.range 182).map λi=>Value.int J (if a<=i / 2/\i / 2<d then(if i % 2=0 then(atC l h r0 r1 c (i / 2)).1 else(atC l h r0 r1 c (i / 2)).2)else 0)).toArray
section
variable (l h r0 r1:Int)(c a d:Nat)
def part_size:(part l h r0 r1 c a d).size=182:=by simp[part]
def part_get{i:Nat}(hi:i<182):(part l h r0 r1 c a d)[i]? =U (Value.int J (if a<=i / 2/\i / 2<d then(if i % 2=0 then(atC l h r0 r1 c (i / 2)).1 else(atC l h r0 r1 c (i / 2)).2)else 0)):=by
 simp[part,List.getElem?_map,List.getElem?_range hi]
def NZ(i:j<=90)(f:a<=j)(g:j<d):(part l h r0 r1 c a d)[j*2]? =U (.int J (atC l h r0 r1 c j).1):=by
 rw[part_get _ _ _ _ _ _ _ OA];have e:j*2 / 2=j:=OA
 have e2:j*2 % 2=0:=OA
 rw[e,e2,YZ ⟨f,g⟩,YZ rfl]
def N2(i:j<=90)(f:a<=j)(g:j<d):(part l h r0 r1 c a d)[j*2+1]? =U (.int J (atC l h r0 r1 c j).2):=by
 rw[part_get _ _ _ _ _ _ _ OA];have e:(j*2+1) / 2=j:=OA
 have e2:(j*2+1) % 2=1:=OA
 rw[e,e2,YZ ⟨f,g⟩,XB OA]
def OR(z:j<=90)(g:∀x,(a'<=x/\x<d')↔((a<=x/\x<d)\/x=j)):
 ((part l h r0 r1 c a d).setIfInBounds (j*2) (.int J (atC l h r0 r1 c j).1)).setIfInBounds (j*2+1) (.int J (atC l h r0 r1 c j).2)=part l h r0 r1 c a' d':=by
 apply Array.ext_getElem?;intro i;rcases VC i 182 with hi|hi
 .rw[part_get _ _ _ _ _ _ _ hi,Array.getElem?_setIfInBounds,Array.getElem?_setIfInBounds];simp only[Array.size_setIfInBounds,part_size];by_cases e:i / 2=j
  .have f:=(g j).2 (.inr rfl);rw[e,YZ f];rcases Nat.mod_two_eq_zero_or_one i with h3|h3
   .have e2:i=j*2:=OA;subst e2;rw[XB OA,YZ rfl,YZ hi,YZ h3]
   .have e2:i=j*2+1:=OA;subst e2;rw[YZ rfl,YZ hi,XB OA]
  .rw[XB OA,XB OA,part_get _ _ _ _ _ _ _ hi];congr 2;have f:=g (i / 2);by_cases h3:a<=i / 2/\i / 2<d
   .rw[YZ h3,YZ (f.2 (.inl h3))]
   .rw[XB h3,XB (λu=>(f.1 u).elim h3 e)]
 .rw[Array.getElem?_eq_none (by simp[part_size];omega),Array.getElem?_eq_none (by simp[part_size];omega)]
end
def Xi(cc:Array NM)(C:Array NM)(l h f i z u g:Int):List Obj:=[NH cc 132,NH C 274,NH cc 132,NH #[l,h] 49,NH #[f,i,z,u,g] 75]
def zeros:(Tryz.zeroCells274)=part 0 0 0 0 0 0 0:=OB
def Grew.trans{w w' w'':NL}{u g:List Obj}(h:Grew w w' u)(f:Grew w' w'' g):Grew w w'' (u++g):=by
 refine⟨by rw[f.size,h.size,XH];omega,λb z=>(f.old b (by rw[h.size];omega)).trans (h.old b z),λi hi=> ?_,f.tape.trans h.tape,f.oss.trans h.oss,f.output.trans h.output⟩;rw[XH]at hi;rcases VC i u.length with h1|h1
 .rw[List.getElem?_append_left h1,f.old _ (by rw[h.size];omega),h.new i h1]
 .rw[List.getElem?_append_right h1,<-f.new (i - u.length) OA,h.size];congr 1;omega
def ED(l h r0 r1:Int)(c a:Nat):Tryz.zeroCells274=part l h r0 r1 c a a:=by
 rw[zeros];apply Array.ext_getElem?;intro i;rcases VC i 182 with hi|hi
 .rw[part_get _ _ _ _ _ _ _ hi,part_get _ _ _ _ _ _ _ hi,XB OA,XB OA]
 .rw[Array.getElem?_eq_none (by simp[part_size];omega),Array.getElem?_eq_none (by simp[part_size];omega)]
def L3{i:Nat}(hi:i<182):Tryz.zeroCells274[i]? =U (NE J 0):=by
 rw[zeros,part_get _ _ _ _ _ _ _ hi,XB OA]
def FB(r0 r1 F E O M K H k:Int)(c:Nat)(b i u z:Nat)(w:NL)(hk:0<=k)(a0:k<u)(X:b<w.heap.size)(Y:c<=90)(V:ShotAt w b (i+k.toNat*5) c O M K H)(l h:Int)(hl:l=lo O K H F E)(hh:h=hi M K H F E):
 NW prog 141 #[.agg (Zg r0 r1 F E b i u z),k] w λe w'=>e= NK (NI (U ⟨w.heap.size+1,0,Z⟩))/\
  Grew w w' (Xi (Zg r0 r1 F E b i u z) (part l h r0 r1 c 0 91) l h c O M K H):=by
 have h0:=V.c0
 have hw:NW prog 66 #[.agg (Zg r0 r1 F E b i u z),k] ((w.alloc (NH (Zg r0 r1 F E b i u z) 132)).alloc (NH Tryz.zeroCells274 274)) λe w'=>e= NK (NJ #[l,h])/\
  Grew w w' (Xi (Zg r0 r1 F E b i u z) Tryz.zeroCells274 l h c O M K H)/\w'.cell? ⟨w.heap.size+1,c*2,Z⟩=U (NE J 0)/\w'.cell? ⟨w.heap.size+1,c*2+1,Z⟩=U (NE J 0)/\
  w'.frozen? ⟨w.heap.size+1,c*2,Z⟩=ND/\w'.frozen? ⟨w.heap.size+1,c*2+1,Z⟩=ND:=by
  have P:Grew w ((w.alloc (NH (Zg r0 r1 F E b i u z) 132)).alloc (NH Tryz.zeroCells274 274)) _:=((Grew.nil w).push _).push _;subst hl;subst hh;refine(IB r0 r1 F E c O M K H k b i u z _ hk a0 (by rw[P.size];omega) ⟨?_,?_,?_,?_,?_⟩).mono ?_
  .rw[P.cell X];exact V.c0
  .rw[P.cell X];exact V.c1
  .rw[P.cell X];exact V.c2
  .rw[P.cell X];exact V.c3
  .rw[P.cell X];exact V.c4
  .rintro e w' ⟨rfl,h2⟩;have h3:Grew w w' (Xi (Zg r0 r1 F E b i u z) Tryz.zeroCells274 (lo O K H F E) (hi M K H F E) c O M K H):=P.trans h2;exact⟨rfl,h3,(h3.cellNew 1 rfl _).trans (L3 OA),(h3.cellNew 1 rfl _).trans (L3 OA),h3.thaw 1 rfl _,h3.thaw 1 rfl _⟩
 simp only[Zg]at hw⊢;clear V hl hh;go_enter func141,ntmps141;have Be:b<w.heap.size+1:=OA
 have hp:∀(v:NL)(o:Obj)(L:Nat),b<v.heap.size->(v.alloc o).cell? ⟨b,L,Z⟩=v.cell? ⟨b,L,Z⟩:=λv o L h=>World.cell?_alloc_lt _ _ _ h
 go_wp2_with (
  go_at_call 66
  refine hw.mono ?_;rintro e w' ⟨rfl,P,z0,z1,f0,f1⟩;clear hw hp Be h0)
 have W:=(P.setCell 1 rfl (c*2) (NE J l)).setCell 1 rfl (c*2+1) (NE J h);have T:((Tryz.zeroCells274).setIfInBounds (c*2) (NE J l)).setIfInBounds (c*2+1) (NE J h)=part l h r0 r1 c c (c+1):=by
  have:=OR l h r0 r1 c c c (a':=c) (d':=c+1) (j:=c) Y (λx=>by omega);rw[<-ED]at this;rw[<-this];simp[atC,upI]
 replace W:Grew w ((w'.setCell ⟨w.heap.size+1,c*2,Z⟩ (NE J l)).setCell ⟨w.heap.size+1,c*2+1,Z⟩ (NE J h)) (Xi #[r0,r1,F,E,I (U ⟨b,i,Z⟩) u z] (part l h r0 r1 c c (c+1)) l h c O M K H):=by rw[<-T];exact W
 generalize (w'.setCell ⟨w.heap.size+1,c*2,Z⟩ (NE J l)).setCell ⟨w.heap.size+1,c*2+1,Z⟩ (NE J h)=w2 at W⊢;clear P z0 z1 f0 f1 T
 go_loopw [7] (λv wr=>∃e:Nat,c<=e/\e<=90/\v= NE J (e+1)/\Grew w wr (Xi #[r0,r1,F,E,I (U ⟨b,i,Z⟩) u z] (part l h r0 r1 c c (e+1)) l h c O M K H))
  (λv _=>91 - (intOf v).toNat)
 case atStart=>exact⟨c,XA _,Y,rfl,W⟩
 case round=>
  obtain⟨e,E5,_,rfl,A⟩:=hrel;clear W
  go_wp2_with (
   go_at_call 113
   refine(Pa _ _).mono ?_;rintro e' C ⟨rfl,rfl⟩)
  .have A5:e+1<=90:=OA
   have g0:C.cell? ⟨w.heap.size+1,e*2,Z⟩=U (.int J (atC l h r0 r1 c e).1):=(A.cellNew 1 rfl _).trans (NZ _ _ _ _ _ _ _ OA E5 OA);have g1:C.cell? ⟨w.heap.size+1,e*2+1,Z⟩=U (.int J (atC l h r0 r1 c e).2):=(A.cellNew 1 rfl _).trans (N2 _ _ _ _ _ _ _ OA E5 OA);have g2:C.cell? ⟨w.heap.size,0,Z⟩=U (NE J r0):=A.cellNew 0 rfl _;have g3:C.cell? ⟨w.heap.size,1,Z⟩=U (NE J r1):=A.cellNew 0 rfl _;have g4:C.cell? ⟨w.heap.size+1,(e+1)*2,Z⟩=U (NE J 0):=(A.cellNew 1 rfl _).trans ((part_get _ _ _ _ _ _ _ OA).trans (by rw[XB OA]));have g5:C.cell? ⟨w.heap.size+1,(e+1)*2+1,Z⟩=U (NE J 0):=(A.cellNew 1 rfl _).trans ((part_get _ _ _ _ _ _ _ OA).trans (by rw[XB OA]));have g6:C.frozen? ⟨w.heap.size+1,(e+1)*2,Z⟩=ND:=A.thaw 1 rfl _;have g7:C.frozen? ⟨w.heap.size+1,(e+1)*2+1,Z⟩=ND:=A.thaw 1 rfl _
   go_region
   all_goals go_wp2
   refine⟨⟨e+1,OA,A5,by push_cast;rfl,?_⟩,by simp[intOf];omega⟩;have Jb:=((A.setCell 1 rfl ((e+1)*2) (NE J (wrap64 ((atC l h r0 r1 c e).1+r0)))).setCell 1 rfl ((e+1)*2+1) (NE J (wrap64 ((atC l h r0 r1 c e).2+r1)))).drew;have eA:atC l h r0 r1 c (e+1)=(wrap64 ((atC l h r0 r1 c e).1+r0),wrap64 ((atC l h r0 r1 c e).2+r1)):=by
    have e1:e+1 - c=(e - c)+1:=OA;simp only[atC,YZ E5,YZ (show c<=e+1 by omega),e1,upI]
   have T:=OR l h r0 r1 c c (e+1) (a':=c) (d':=e+1+1) (j:=e+1) A5 (λx=>by omega);rw[eA]at T;rw[<-T];exact Jb
  .have he:e=90:=OA
   subst he;have Pw:Grew w C (Xi #[r0,r1,F,E,I (U ⟨b,i,Z⟩) u z] (part l h r0 r1 c c 91) l h c O M K H):=A;clear A
   go_loopw [8] (λv wr=>∃f:Nat,f<=c/\v= NE J ((f:Int) - 1)/\Grew w wr (Xi #[r0,r1,F,E,I (U ⟨b,i,Z⟩) u z] (part l h r0 r1 c f 91) l h c O M K H))
    (λv _=>(intOf v+1).toNat)
   case atStart=>exact⟨c,XA _,rfl,Pw⟩
   case round=>
    obtain⟨f,_,rfl,A⟩:=hrel;clear Pw;rcases f with _|g
    .go_wp2_with (
      go_at_call 113
      refine(Pa _ _).mono ?_;rintro e' a1 ⟨rfl,rfl⟩)
     go_ret;exact⟨rfl,A⟩
    .have ev:((g+1:Nat):Int) - 1=g:=OA;rw[ev];have g0:wr.cell? ⟨w.heap.size+1,(g+1)*2,Z⟩=U (.int J (atC l h r0 r1 c (g+1)).1):=(A.cellNew 1 rfl _).trans (NZ _ _ _ _ _ _ _ OA OA OA);have g1:wr.cell? ⟨w.heap.size+1,(g+1)*2+1,Z⟩=U (.int J (atC l h r0 r1 c (g+1)).2):=(A.cellNew 1 rfl _).trans (N2 _ _ _ _ _ _ _ OA OA OA);have g2:wr.cell? ⟨w.heap.size,0,Z⟩=U (NE J r0):=A.cellNew 0 rfl _;have g3:wr.cell? ⟨w.heap.size,1,Z⟩=U (NE J r1):=A.cellNew 0 rfl _;have g4:wr.cell? ⟨w.heap.size+1,g*2,Z⟩=U (NE J 0):=(A.cellNew 1 rfl _).trans ((part_get _ _ _ _ _ _ _ OA).trans (by rw[XB OA]));have g5:wr.cell? ⟨w.heap.size+1,g*2+1,Z⟩=U (NE J 0):=(A.cellNew 1 rfl _).trans ((part_get _ _ _ _ _ _ _ OA).trans (by rw[XB OA]));have g6:wr.frozen? ⟨w.heap.size+1,g*2,Z⟩=ND:=A.thaw 1 rfl _;have g7:wr.frozen? ⟨w.heap.size+1,g*2+1,Z⟩=ND:=A.thaw 1 rfl _
     go_wp2_with (
      go_at_call 113
      refine(Pa _ _).mono ?_;rintro e' a1 ⟨rfl,rfl⟩)
     go_region
     all_goals go_wp2
     refine⟨?_,?measure⟩;iterate 28 apply Exists.intro
     refine⟨?rel,rfl⟩
     case rel=>
      refine⟨g,OA,rfl,?_⟩;have Jb:=((A.setCell 1 rfl (g*2) (NE J (wrap64 ((atC l h r0 r1 c (g+1)).1 - r1)))).setCell 1 rfl (g*2+1) (NE J (wrap64 ((atC l h r0 r1 c (g+1)).2 - r0)))).drew;have eA:atC l h r0 r1 c g=(wrap64 ((atC l h r0 r1 c (g+1)).1 - r1),wrap64 ((atC l h r0 r1 c (g+1)).2 - r0)):=by
       have e1:c - g=(c - (g+1))+1:=OA;by_cases h1:c<=g+1
       .have e2:c=g+1:=OA;simp only[atC,YZ h1,XB (show¬c<=g by omega),e1,dnI];simp[e2,dnI,upI]
       .simp only[atC,XB h1,XB (show¬c<=g by omega),e1,dnI]
      have T:=OR l h r0 r1 c (g+1) 91 (a':=g) (d':=91) (j:=g) OA (λx=>by omega);rw[eA]at T;rw[<-T];exact Jb
     case measure=>simp[intOf]
def run_asAgg(f:Array NM)(w:NL):(asAgg (.agg f)).run prog w= .ok f w:=rfl
@[simp] def f96 (a b c d e:NM) (w:NL):(Instr.field 132 (NJ #[a,b,c,d,e]) 0).run prog w= .ok (NJ #[a,b,c,d,e]) w:=by
  unfold Instr.field Go.part;simp[go_sem,run_asAgg]
@[simp] def f49_0 (a b c d e:NM) (w:NL):(Instr.field 31 (NJ #[a,b,c,d,e]) 0).run prog w= .ok (NJ #[a,b,c,d]) w:=by
  unfold Instr.field Go.part;simp[go_sem,run_asAgg]
@[simp] def f49_1 (a b c d e:NM) (w:NL):(Instr.field 31 (NJ #[a,b,c,d,e]) 1).run prog w= .ok e w:=by
  unfold Instr.field Go.part;simp[go_sem,run_asAgg]
@[simp] def f46_0 (a b c d:NM) (w:NL):(Instr.field 28 (NJ #[a,b,c,d]) 0).run prog w= .ok a w:=by
  unfold Instr.field Go.part;simp[go_sem,run_asAgg]
@[simp] def f46_1 (a b c d:NM) (w:NL):(Instr.field 28 (NJ #[a,b,c,d]) 1).run prog w= .ok b w:=by
  unfold Instr.field Go.part;simp[go_sem,run_asAgg]
@[simp] def f46_2 (a b c d:NM) (w:NL):(Instr.field 28 (NJ #[a,b,c,d]) 2).run prog w= .ok c w:=by
  unfold Instr.field Go.part;simp[go_sem,run_asAgg]
@[simp] def f46_3 (a b c d:NM) (w:NL):(Instr.field 28 (NJ #[a,b,c,d]) 3).run prog w= .ok d w:=by
  unfold Instr.field Go.part;simp[go_sem,run_asAgg]
structure Sh where
 c:Nat
 m:Int
 M:Int
 wi:Int
 li:Int
def shL(f g:Int)(s:Sh):Int:=lo s.m s.wi s.li f g
def shH(f g:Int)(s:Sh):Int:=hi s.M s.wi s.li f g
def Shots(w:NL)(g:Option NP)(S:List Sh):Prop:=∀(i:Nat)(s:Sh),S[i]? =U s->∃b f,g=U ⟨b,f,Z⟩/\b<w.heap.size/\s.c<=90/\ShotAt w b (f+i*5) s.c s.m s.M s.wi s.li
def Zh(r0 r1 u z:Int)(f:Option NP)(i g:Nat):Array NM:= #[r0,r1,u,z,I f i g]
def shO(cc:Array NM)(r0 r1 f g:Int)(s:Sh):List Obj:=Xi cc (part (shL f g s) (shH f g s) r0 r1 s.c 0 91) (shL f g s) (shH f g s) s.c s.m s.M s.wi s.li
def ZH(B n i:Nat):Array NM:=((List.range n).map λj=>if j<i then Value.pointer (U ⟨B+1+5*j+1,0,Z⟩)else Value.pointer Z).toArray
def kO(cc:Array NM)(r0 r1 f g:Int)(S:List Sh)(B i:Nat):List Obj:=Obj.cells (ZH B S.length i) 188::(S.take i).flatMap (shO cc r0 r1 f g)
def T8(B n i:Nat):(ZH B n i).size=n:=by simp[ZH]
def Om{i:Nat}(f:j<n):(ZH B n i)[j]? =U (if j<i then Value.pointer (U ⟨B+1+5*j+1,0,Z⟩)else Value.pointer Z):=by
 simp[ZH,List.getElem?_map,List.getElem?_range f]
def lH{i:Nat}(hi:i<n):(ZH B n i).setIfInBounds i (NI (U ⟨B+1+5*i+1,0,Z⟩))=ZH B n (i+1):=by
 apply Array.ext_getElem?;intro j;rcases VC j n with hj|hj
 .rw[Array.getElem?_setIfInBounds,Om hj,Om hj,T8];by_cases e:i=j
  .subst e;rw[YZ rfl,YZ hi,YZ OA]
  .rw[XB e];congr 1;by_cases f:j<i
   .rw[YZ f,YZ OA]
   .rw[XB f,XB OA]
 .rw[Array.getElem?_eq_none (by simp[T8];omega),Array.getElem?_eq_none (by simp[T8];omega)]
def FP(B n:Nat):madeCells (Value.pointer Z).cells (n*1)=ZH B n 0:=by
 apply Array.ext_getElem?;intro j;rw[Nat.mul_one];rcases VC j n with hj|hj
 .rw[Om hj,XB OA];simp[madeCells,Value.cells,hj,Nat.mod_one]
 .rw[Array.getElem?_eq_none (by simp[madeCells];omega),Array.getElem?_eq_none (by simp[T8];omega)]
def run_mk(n:Nat)(z:n<=8)(w:NL):(Instr.makeSlice 134 (NE J n) (NE J n)).run prog w= .ok (I (U w.heap.size) n n) (w.alloc (NH (ZH w.heap.size n 0) 188)):=by
 have g:Tryz.t188.bytes=8:=OB
 have f:Tryz.t188.size=1:=OB
 have u:Tryz.t188.zero=U (NI Z):=OB
 have i:prog.underlying 134=U (.slice 188):=(underlying_eq 134).trans Tryz.underlying134;have hi:prog.info? 188=U Tryz.t188:=OB
 have:=run_makeSlice (P:=prog) w 134 188 Tryz.t188 (NI Z) i hi u J J n n OA OA (by rw[f];omega) (by rw[g];omega) OA;rw[this,f];simp only[US];rw[FP w.heap.size n]
def Ni(cc:Array NM)(r0 r1 f g:Int)(S:List Sh)(B i:Nat)(hi:i<=S.length):(kO cc r0 r1 f g S B i).length=1+5*i:=by
 simp only[kO,YP,List.length_flatMap];have:(List.map (λa=>(shO cc r0 r1 f g a).length) (S.take i))=List.replicate i 5:=by
  rw[List.eq_replicate_iff];refine⟨by simp;omega,λx u=> ?_⟩;obtain⟨a,_,rfl⟩:=VW.1 u;rfl
 rw[this];simp;omega
def iK(cc:Array NM)(r0 r1 f g:Int)(S:List Sh)(B i:Nat)(s:Sh)(u:S[i]? =U s):(kO cc r0 r1 f g S B i++shO cc r0 r1 f g s).set 0 (NH (ZH B S.length (i+1)) 188)=kO cc r0 r1 f g S B (i+1):=by
 have z:=(YI.1 u).1;have e:S.take (i+1)=S.take i++[s]:=by rw[VL,u];rfl
 simp only[kO,e,List.flatMap_append,YK,UJ,UN,List.flatMap_nil,TB]
def curves_any(r0 r1 A u:Int)(E:Option NP)(g:Nat)(w:NL)(S:List Sh)(n:Nat)(T:S.length=n)(W:n<=8)(V:Shots w E S):
 NW prog 114 #[.agg (Zh r0 r1 A u E n g)] w λe w'=>e= NK (I (U w.heap.size) n n)/\
  Grew w w' (kO (Zh r0 r1 A u E n g) r0 r1 A u S w.heap.size n):=by
 simp only[Zh];go_enter func114,ntmps114;simp only[kBody,kCheck,kBuild,kRule,kShot,kNext,kTest,kMake,kOne,op];go_wp2;rw[show decide ((n:Int)<=8)=true from VB OA];go_loopw [12] (λv wr=>∃i:Nat,i<=n/\v= NE J i/\wr=w) (λv _=>n - (intOf v).toNat)
 case atStart=>exact⟨0,XL _,rfl,rfl⟩
 case round=>
  obtain⟨i,hi,rfl,f⟩:=hrel;obtain rfl:=f.symm;clear f;by_cases f:i=n
  .subst f;have f:=run_mk i W w;go_wp2;have z:Grew w (w.alloc (NH (ZH w.heap.size i 0) 188)) (kO #[r0,r1,A,u,I E i g] r0 r1 A u S w.heap.size 0):=by
    have:=(Grew.nil w).push (NH (ZH w.heap.size i 0) 188);simpa[kO,T]using this
   clear f;generalize w.alloc (NH (ZH w.heap.size i 0) 188)=f at z⊢;go_loopw [12] (λv f=>∃j:Nat,j<=i/\v= NE J j/\Grew w f (kO #[r0,r1,A,u,I E i g] r0 r1 A u S w.heap.size j)) (λv _=>i - (intOf v).toNat)
   case atStart=>exact⟨0,XL _,rfl,z⟩
   case round=>
    obtain⟨j,_,rfl,F⟩:=hrel;clear z;by_cases f:j=i
    .subst f;go_wp2;go_ret;exact⟨rfl,F⟩
    .have A5:j<i:=OA;obtain⟨s,O⟩:∃s,S[j]? =U s:=⟨_,YH OA⟩;obtain⟨b,C,rfl,K,P,f⟩:=V j s O
     have D0:NW prog 141 #[NJ #[r0,r1,A,u,I (U ⟨b,C,Z⟩) i g],j] wr λe H=>e= NK (NI (U ⟨w.heap.size+1+5*j+1,0,Z⟩))/\
      Grew w H (kO #[r0,r1,A,u,I (U ⟨b,C,Z⟩) i g] r0 r1 A u S w.heap.size j++shO #[r0,r1,A,u,I (U ⟨b,C,Z⟩) i g] r0 r1 A u s)/\H.cell? ⟨w.heap.size,j,Z⟩=U (NI Z)/\H.frozen? ⟨w.heap.size,j,Z⟩=ND:=by
      have z:wr.heap.size=w.heap.size+(1+5*j):=(by rw[F.size,Ni _ _ _ _ _ _ _ _ OA]);refine(FB r0 r1 A u s.m s.M s.wi s.li j s.c b C i g wr OA OA OA P ?_ _ _ rfl rfl).mono ?_
      .simp only[US];exact⟨(F.cell K).trans f.c0,(F.cell K).trans f.c1,(F.cell K).trans f.c2,(F.cell K).trans f.c3,(F.cell K).trans f.c4⟩
      .rintro e H ⟨rfl,hG⟩;have L:Grew w H (kO #[r0,r1,A,u,I (U ⟨b,C,Z⟩) i g] r0 r1 A u S w.heap.size j++shO #[r0,r1,A,u,I (U ⟨b,C,Z⟩) i g] r0 r1 A u s):=F.trans hG;refine⟨?_,L,(L.cellNew 0 rfl j).trans ?_,L.thaw 0 rfl j⟩
       .rw[z];congr 4;omega
       .rw[T,Om A5,XB OA]
     clear f P
     go_wp2_with (
      go_at_call 141
      refine D0.mono ?_;rintro e H ⟨rfl,L,z,f⟩;clear D0 F)
     refine⟨⟨j+1,OA,by push_cast;rfl,?_⟩,by simp[intOf];omega⟩
     .skip
      have z:=L.setCell 0 rfl j (NI (U ⟨w.heap.size+1+5*j+1,0,Z⟩));have f:Grew w (H.setCell ⟨w.heap.size,j,Z⟩ (NI (U ⟨w.heap.size+1+5*j+1,0,Z⟩))) ((kO #[r0,r1,A,u,I (U ⟨b,C,Z⟩) i g] r0 r1 A u S w.heap.size j++shO #[r0,r1,A,u,I (U ⟨b,C,Z⟩) i g] r0 r1 A u s).set 0 (NH ((ZH w.heap.size S.length j).setIfInBounds j (NI (U ⟨w.heap.size+1+5*j+1,0,Z⟩))) 188)):=z;rw[lH OA,iK _ _ _ _ _ _ _ _ _ O]at f;exact f
  .have A5:i<n:=OA
   obtain⟨s,O⟩:∃s,S[i]? =U s:=⟨_,YH OA⟩;obtain⟨b,C,rfl,K,P,_,_,_,_,_⟩:=V i s O;go_wp2;refine⟨⟨i+1,OA,by push_cast;rfl,trivial⟩,by simp[intOf];omega⟩
end Go.Proofs.Tryq
section
namespace Go.Proofs.Tryq
open Go Go.Nk Go.RowKit
structure Ext(w w':NL):Prop where
 size:w.heap.size<=w'.heap.size
 old:∀b,b<w.heap.size->w'.heap[b]? =w.heap[b]?
 tape:w'.tape=w.tape
 os:w'.os=w.os
 output:w'.output=w.output
def OI(v:NM)(w:NL):Unit:=()
instance (v:NM)(w:NL):CoeDep Unit (OI v w) (Ending->NL->Prop):=⟨λe u=>e= NK v∧Ext w u⟩
namespace Ext
def rfl'(w:NL):Ext w w:=⟨XA _,λ_ _=>rfl,rfl,rfl,rfl⟩
def trans(h:Ext w w')(f:Ext w' w''):Ext w w'':=⟨XC h.size f.size,λb g=>(f.old b (YS g h.size)).trans (h.old b g),f.tape.trans h.tape,f.os.trans h.os,f.output.trans h.output⟩
def alloc(h:Ext w w')(o:Obj):Ext w (w'.alloc o):=by
 have e:(w'.alloc o).heap=w'.heap.push o:=rfl;exact⟨by rw[e];have:=h.size;simp;omega,λb f=>by rw[e,Array.getElem?_push,XB (by have:=h.size;omega)];exact h.old b f,h.tape,h.os,h.output⟩
def setCell(h:Ext w w')(a:NP)(v:NM)(i:w.heap.size<=a.block):Ext w (w'.setCell a v):=by
 have f:=VT w' a v;exact⟨by rw[f.size];exact h.size,λb g=>(f.block b OA).trans (h.old b g),f.tape.trans h.tape,f.os.trans h.os,f.output.trans h.output⟩
def drew(h:Ext w w'):Ext w w'.drew:=⟨h.size,h.old,h.tape,h.os,h.output⟩
def cell(h:Ext w w'){a:NP}(f:a.block<w.heap.size):w'.cell? a=w.cell? a:=by simp only[World.cell?,h.old _ f]
def frozen(h:Ext w w'){a:NP}(f:a.block<w.heap.size):w'.frozen? a=w.frozen? a:=by simp only[World.frozen?,h.old _ f]
def lt(h:Ext w w'){b:Nat}(f:b<w.heap.size):b<w'.heap.size:=YS f h.size
def get(h:Ext w w'){b:Nat}{o:Obj}(f:w.heap[b]? =U o):w'.heap[b]? =U o:=(h.old b (YF.1 f).1).trans f
def cellS(h:Ext w w'){a:NP}{v:NM}(f:w.cell? a=U v):w'.cell? a=U v:=by
 refine(h.cell ?_).trans f;unfold World.cell? at f;split at f
 .rename_i hh;exact(YF.1 hh).1
 .cases f
end Ext
def Grew.ext{f:List Obj}(h:Grew w w' f):Ext w w':=⟨by rw[h.size];omega,h.old,h.tape,h.oss,h.output⟩
def Z0{c:Array NM}{f:Nat×Nat}(h:w.heap[b]? =U (.cells c e f))(i:Nat):w.cell? ⟨b,i,Z⟩=c[i]? :=by simp[World.cell?,h]
def Z8{c:Array NM}(h:w.heap[b]? =U (NH c e))(i:Nat):w.frozen? ⟨b,i,Z⟩=ND:=by simp[World.frozen?,h]
def Z5(h:w.heap[b]? =U o):b<w.heap.size:=(YF.1 h).1
def Z3(w:NL)(o:Obj)(b:Nat):(w.alloc o).heap[b]? =if b=w.heap.size then U o else w.heap[b]? :=by
 have e:(w.alloc o).heap=w.heap.push o:=rfl;rw[e,Array.getElem?_push]
def Z2(w:NL)(o:Obj):(w.alloc o).heap.size=w.heap.size+1:=by
 have e:(w.alloc o).heap=w.heap.push o:=rfl;rw[e];simp
def Zc(h:w.heap[b]? =U (NH #[x,y] t)):w.cell? ⟨b,0,Z⟩=U x/\w.cell? ⟨b,1,Z⟩=U y/\w.frozen? ⟨b,0,Z⟩=ND/\w.frozen? ⟨b,1,Z⟩=ND:=
 ⟨Z0 h 0,Z0 h 1,Z8 h 0,Z8 h 1⟩
def Zb{i:Nat}{c:Array NM}(h:w.heap[b]? =U (NH c t))(v:NM):(w.setCell ⟨b,i,Z⟩ v).heap[b]? =U (NH (c.setIfInBounds i v) t):=by
 rw[setCell_eq_setRow w b i c _ (0,0) _ h,setRow_heap w b _ _ _ _ h]
def set_ne{a:NP}(h:b≠a.block)(v:NM):(w.setCell a v).heap[b]? =w.heap[b]? :=(VT w a v).block b h
def set_pair(h:w.heap[b]? =U (NH #[x,y] t))(f g:NM):((w.setCell b f).setCell ⟨b,1,Z⟩ g).heap[b]? =U (NH #[f,g] t):=Zb (Zb h f) g
structure Most(w:NL):Prop where
 m0:w.cell? ⟨1,0,Z⟩=U (NE J (-1099511627776))
 m1:w.cell? ⟨1,1,Z⟩=U (NE J 1099511627776)
def Most.ext(h:Most w)(e:Ext w w'):Most w':=⟨e.cellS h.m0,e.cellS h.m1⟩
structure Cv(w:NL)(B n:Nat)(p:Nat->Nat)(C:Nat->Nat->Int×Int):Prop where
 ptr:∀i,i<n->w.cell? ⟨B,i,Z⟩=U (NI (U ⟨p i,0,Z⟩))
 lo:∀i d,i<n->d<=90->w.cell? ⟨p i,d*2,Z⟩=U (.int J (C i d).1)
 hi:∀i d,i<n->d<=90->w.cell? ⟨p i,d*2+1,Z⟩=U (.int J (C i d).2)
def Cv.ext{C:Nat->Nat->Int×Int}(h:Cv w B n p C)(e:Ext w w'):Cv w' B n p C:=⟨λi hi=>e.cellS (h.ptr i hi),λi d hi f=>e.cellS (h.lo i d hi f),λi d hi f=>e.cellS (h.hi i d hi f)⟩
end Go.Proofs.Tryq
end
namespace Go.Proofs.Tryq
section
open Go Go.Nk Go.RowKit
variable [Tw]
def PU(b:Bool)(f:Int)(w:NL):NW gp 64 #[.bool b,f] w (OJ (NE J (if b then f else 0)) w):=by
 go_enter fk Tryz.func64,Tryz.ntmps64;go_wp2;all_goals (go_ret;simp_all)
def A9(a b lo hi:Int)(w:NL):NW gp 119 #[NJ #[a,b],lo,hi] w λe w'=>e= NK (.bool (decide (lo<=a/\a<=b/\b<=hi)))/\w'=w.alloc (NH #[a,b] 49):=by
 go_enter fk Tryz.func119,Tryz.ntmps119;go_wp2
 all_goals
  go_ret;refine⟨?_,rfl⟩;rw[show∀x y:NM,Ending.returned x=Ending.returned y↔x=y from λx y=>by simp];simp only[Array.getD_eq_getD_getElem?,YC,YA,YB,UM];simp[*]
  try omega
def lx(a b lo hi:Int)(w:NL):NW gp 119 #[NJ #[a,b],lo,hi] w (OI (.bool (decide (lo<=a/\a<=b/\b<=hi))) w):=
 (A9 a b lo hi w).mono λe w' h=>⟨h.1,h.2▸(Ext.rfl' w).alloc _⟩
def DZ(B n E:Nat)(hn:n<=8)(C:Nat->FuncId)(P cv:Nat->Array NM)(u:Nat->NL->Prop)(g:NL->Prop)(r:Nat->Int)(w:NL)
 (O:∀i,i<n->∀w',u i w'->w'.cell? ⟨B,i,Z⟩=U (.func (.func (C i)) (P i) (cv i)))
 (M:∀i,i<n->∀z w',(callFunc (C i) z).run gp w'= .ok (.enter (C i) z) w')
 (D0:∀i,i<n->∀w',u i w'->NW gp (C i) (P i++cv i) w' λe w''=>e= NK (NE J (r i))/\(r i=0->u (i+1) w'')/\(r i≠0->g w''))
 (V:u 0 w):NW gp 61 #[I (U B) n E] w λe w'=>∃v,e= NK (NE J v)/\((v=0/\u n w'/\∀i,i<n->r i=0)\/(∃i,i<n/\r i≠0/\v=r i/\(∀j,j<i->r j=0)/\g w')):=by
 go_enter fk Tryz.func61,Tryz.ntmps61;go_wp2;go_loopw [8] (λv wr=>∃i:Nat,i<=n/\v= NE J i/\u i wr/\∀j,j<i->r j=0) (λv _=>n - (intOf v).toNat)
 case atStart=>exact⟨0,XL _,rfl,V,λj T=>by omega⟩
 case round=>
  obtain⟨i,hi,rfl,L,K⟩:=hrel;by_cases X:i=n
  .subst X;go_wp2;go_ret;exact⟨0,rfl,.inl ⟨rfl,L,K⟩⟩
  .have A5:i<n:=OA
   have Y:=O i A5 wr L;have H:=M i A5;have A:=D0 i A5 wr L;clear O M D0;generalize C i=f at Y H A
   go_wp2_with (
    first|(refine A.mono ?_;rintro e _ ⟨rfl,F,W⟩))
   .rename_i Ab;go_ret;simp at Ab;exact⟨r i,rfl,.inr ⟨i,A5,Ab,rfl,K,W Ab⟩⟩
   .rename_i heq;simp at heq;refine⟨⟨i+1,OA,by push_cast;rfl,F heq,λj T=> ?_⟩,by simp[intOf];omega⟩;rcases TL.1 T with h|rfl
    .exact K j h
    .exact heq
def aA(a b c d:Int)(w:NL):NW gp 72 #[NJ #[a,b],NJ #[c,d]] w (OI (NJ #[NE J (max a c),NE J (min b d)]) w):=by
 go_enter fk Tryz.func72,Tryz.ntmps72;go_wp2
 all_goals
  refine VE (v:= NJ #[NE J (max a c),NE J (min b d)]) ((Q7 rfl _ _ _).trans ?_) rfl ⟨rfl,(((Ext.rfl' w).alloc _).alloc _).alloc _⟩;simp[go_sem];omega
def has(set:Int)(i:Nat):Bool:=bits .and J (set / 2 ^ i) 1==1
def atF(C:Nat->Nat->Int×Int)(set:Int)(d:Nat):Nat->Int×Int
 |0=>(-1099511627776,1099511627776)
 |i+1=>if has set i then(max (atF C set d i).1 (C i d).1,min (atF C set d i).2 (C i d).2)else atF C set d i
def LY(r0 r1 r2 r3:Int)(sl:NM)(B n d:Nat)(set:Int)(p:Nat->Nat)(C:Nat->Nat->Int×Int)(hn:n<=8)(O:d<=90)(hs:0<=set/\set<256)(w:NL)(W:Most w)(hC:Cv w B n p C):
 NW gp 69 #[NJ #[r0,r1,r2,r3,sl,I (U B) n n],set,d] w λe w'=>
  e= NK (NJ #[.int J (atF C set d n).1,.int J (atF C set d n).2])/\Ext w w':=by
 have a0:=W;obtain⟨H,m1⟩:=W;have h1:1<w.heap.size:=by
  unfold World.cell? at H;split at H
  .rename_i hh;exact Z5 hh
  .cases H
 have L:1<w.heap.size+1:=OA
 have hp:∀(v:NL)(o:Obj)(f:Nat),1<v.heap.size->(v.alloc o).cell? ⟨1,f,Z⟩=v.cell? ⟨1,f,Z⟩:=λv o f h=>World.cell?_alloc_lt _ _ _ h
 have a6:(0:Int)<=(d:Int):=OA
 have Xf:(d:Int)<91:=OA
 go_enter fk Tryz.func69,Tryz.ntmps69;go_wp2;go_loopw [14] (λv wr=>∃i:Nat,i<=n/\v= NE J i/\Ext w wr/\wr.heap[w.heap.size+1]? =U (NH OH 49)/\wr.heap[w.heap.size+1+1]? =U (NH #[.int J (atF C set d i).1,.int J (atF C set d i).2] 49)) (λv _=>n - (intOf v).toNat)
 case atStart=>
  refine⟨0,XL _,rfl,(((Ext.rfl' w).alloc _).alloc _).alloc _,?_,?_⟩
  .simp only[Z3,Z2];rw[XB OA,YZ trivial]
  .simp only[Z3,Z2];rw[YZ trivial];rfl
 case round=>
  obtain⟨i,hi,rfl,A,E,F⟩:=hrel;have u:=hC.ext A;have Ba:=A.size;obtain⟨_,_,_,_⟩:=Zc F;obtain⟨_,_,_,_⟩:=Zc E;have Y:=Z5 F;clear hp H m1 L;by_cases Ao:i=n
  .subst Ao;go_wp2;refine VE (v:= NJ #[.int J (atF C set d i).1,.int J (atF C set d i).2]) ((Q7 rfl _ _ _).trans ?_) rfl ⟨rfl,(A.setCell _ _ OD).setCell _ _ OD⟩;have P:=Zc (set_pair E (.int J (atF C set d i).1) (.int J (atF C set d i).2));simp[go_sem,P.1,P.2.1]
  .have A5:i<n:=OA
   have a5:=u.ptr i A5;have K:=u.lo i d A5 O;have M:=u.hi i d A5 O;have Tf:p i<wr.heap.size:=by
    unfold World.cell? at K;split at K
    .rename_i hh;exact Z5 hh
    .cases K
   go_wp2
   .rename_i hbit
    go_region_with (
     first|go_at_call 72;refine(aA _ _ _ _ _).r λ_ X=> ?_;have g:=(Ext.rfl' wr).drew.trans X;have z:=Zc (g.get F);have D1:=Zc (g.get E);have a1:=z.1;have a4:=z.2.1;have a3:=z.2.2.1;have a2:=z.2.2.2;have V:=g.cellS K;have T:=g.cellS M;clear z D1 X)
    all_goals
     go_wp2;have Ad:=A.trans g;refine⟨⟨i+1,OA,by push_cast;rfl,(Ad.setCell _ _ (by show w.heap.size<=w.heap.size+1+1;omega)).setCell _ _ (by show w.heap.size<=w.heap.size+1+1;omega),?_,?_⟩,by simp[intOf];omega⟩
     .rw[set_ne OD,set_ne OD];exact g.get E
     .rw[set_pair (g.get F)];simp only[atF,has,hbit,XY]
   .rename_i hbit;refine⟨⟨i+1,OA,by push_cast;rfl,A,E,?_⟩,by simp[intOf];omega⟩;rw[F];simp only[atF,has,hbit,YR,VF]
variable [Tw]
def S6(C:Nat->Nat->Int×Int)(set:Int)(n:Nat)(k:Nat):Bool:=(List.range k).all λd=>decide ((atF C set d n).1<=(atF C set d n).2)
def Zz(C:Nat->Nat->Int×Int)(set:Int)(n:Nat):Bool:=S6 C set n 91
def FF{C:Nat->Nat->Int×Int}{set:Int}:S6 C set n (k+1)=(S6 C set n k&&decide ((atF C set k n).1<=(atF C set k n).2)):=by
 simp[S6,List.range_succ]
def qf{C:Nat->Nat->Int×Int}{set:Int}(h:S6 C set n k=ND)(f:k<=m):S6 C set n m=ND:=by
 induction f with|refl=>exact h|step _ g=>rw[FF,g];rfl
def bf(r0 r1 E u:Int)(z:NM)(B n:Nat)(set:Int)(p:Nat->Nat)(C:Nat->Nat->Int×Int)(O:n<=8)(X:0<=set/\set<256)(w:NL)(Y:Most w)(W:Cv w B n p C):
 NW gp 111 #[NJ #[r0,r1,E,u,z,I (U B) n n],set] w λe w'=>
  e= NK (.bool (Zz C set n))/\Ext w w':=by
 go_enter fk Tryz.func111,Tryz.ntmps111;go_wp2;have f:=O;go_loopw [7] (λv wr=>∃d:Nat,d<=91/\v= NE J d/\Ext w wr/\wr.heap[w.heap.size]? =U (NH #[r0,r1,E,u,z,I (U B) n n] 136)/\S6 C set n d=true) (λv _=>91 - (intOf v).toNat)
 case atStart=>
  refine⟨0,XL _,rfl,(Ext.rfl' w).alloc _,?_,rfl⟩;rw[Z3,YZ rfl]
 case round=>
  obtain⟨d,_,rfl,i,f,A⟩:=hrel;have V:=Z0 f 0;have H:=Z0 f 1;have K:=Z0 f 2;have L:=Z0 f 3;have T:=Z0 f 4;have M:=Z0 f 5;simp only[YC,YA,YB]at V H K L T M;by_cases g:d=91
  .subst g;go_wp2;go_ret;exact⟨by rw[Zz,A];rfl,i⟩
  .have A5:d<=90:=OA
   have g:=LY r0 r1 E u z B n d set p C O A5 X wr (Y.ext i) (W.ext i)
   go_wp2_with (
    go_at_call 69
    refine g.r λ_ P=> ?_;have F:=i.trans P;have i:=P.get f;clear g V H K L T M)
   .rename_i Jc;go_ret;refine⟨?_,(F.alloc _)⟩;have f:S6 C set n (d+1)=ND:=(by rw[FF,A];simp at Jc⊢;omega);rw[Zz,qf f OA];rfl
   .rename_i Bz;refine⟨⟨d+1,OA,by push_cast;rfl,F.alloc _,(by rw[Z3,XB (by have:=Z5 i;omega)];exact i),?_⟩,by simp[intOf];omega⟩;rw[FF,A];simp at Bz⊢;omega
end
section
open Go Go.Nk Go.RowKit
def mG(f:Sh->List Obj)(g:∀s,(f s).length=5):∀(S:List Sh)(k j:Nat),j<5->(S.flatMap f)[5*k+j]? =(S[k]?).bind λs=>(f s)[j]? :=by
 intro S
 induction S with
 |nil=>intro k j _;simp
 |cons s S i=>
  intro k j u;rw[UN];cases k with
  |zero=>
   rw[List.getElem?_append_left (by rw[g];omega)];simp
  |succ k=>
   rw[List.getElem?_append_right (by rw[g];omega),g];rw[show 5*(k+1)+j - 5=5*k+j by omega,i k j u];simp
def Cv.set{C:Nat->Nat->Int×Int}(h:Cv w B n p C){a:NP}(z:B≠a.block)(u:∀i,p i≠a.block)(v:NM):Cv (w.setCell a v) B n p C:=by
 have f:∀b i,b≠a.block->(w.setCell a v).cell? ⟨b,i,Z⟩=w.cell? ⟨b,i,Z⟩:=λb i g=>by simp only[World.cell?,set_ne (w:=w) (a:=a) (b:=b) g v]
 exact⟨λi hi=>(f _ _ z).trans (h.ptr i hi),λi d hi g=>(f _ _ (u i)).trans (h.lo i d hi g),λi d hi g=>(f _ _ (u i)).trans (h.hi i d hi g)⟩
def cvS(r0 r1 f g:Int)(S:List Sh)(i d:Nat):Int×Int:=match S[i]? with
 |some s=>atC (shL f g s) (shH f g s) r0 r1 s.c d
 |none=>(0,0)
def cv_of{r0 r1 g u:Int}{S:List Sh}(A:S.length=n)(h:Grew w w' (kO cc r0 r1 g u S w.heap.size n)):Cv w' w.heap.size n (λi=>w.heap.size+(1+5*i+1)) (cvS r0 r1 g u S):=by
 have f:(kO cc r0 r1 g u S w.heap.size n).length=1+5*n:=Ni _ _ _ _ _ _ _ _ OA;have E:w'.heap[w.heap.size]? =U (NH (ZH w.heap.size n n) 188):=by
  have:=h.new 0 OA;rw[RS]at this;rw[this,<-A];simp only[kO,YA]
 have C:∀i,i<n->∃s,S[i]? =U s/\w'.heap[w.heap.size+(1+5*i+1)]? =U (NH (part (shL g u s) (shH g u s) r0 r1 s.c 0 91) 274):=by
  intro i hi;obtain⟨s,f⟩:∃s,S[i]? =U s:=⟨_,YH OA⟩;refine⟨s,f,?_⟩;rw[h.new _ OA,show 1+5*i+1=(5*i+1)+1 by omega];simp only[kO,YB];rw[<-A,TC,mG _ (λ_=>rfl) S i 1 OA,f];rfl
 refine⟨λi hi=> ?_,λi d hi z=> ?_,λi d hi z=> ?_⟩
 .rw[Z0 E,Om hi,YZ hi];congr 4;omega
 .obtain⟨s,f,hb⟩:=C i hi;rw[Z0 hb,NZ _ _ _ _ _ _ _ z OA OA];simp only[cvS,f]
 .obtain⟨s,f,hb⟩:=C i hi;rw[Z0 hb,N2 _ _ _ _ _ _ _ z OA OA];simp only[cvS,f]
def N9(r0 r1 u z:Int)(f:Option NP)(n g:Nat)(v:NM)(A:n<=8)(w:NL):
 NW prog 70 #[NJ #[r0,r1,u,z,I f n g,v]] w (OI (NE J (2 ^ n - 1)) w):=by
 have i:(0:Int)<=(n:Int):=OA
 have i:(n:Int)<64:=OA
 go_enter fk Tryz.func70,Tryz.ntmps70;go_wp2;have e:wrap64 (wrap64 (2 ^ n) - 1)=2 ^ n - 1:=by
  obtain rfl|rfl|rfl|rfl|rfl|rfl|rfl|rfl|rfl:n=0\/n=1\/n=2\/n=3\/n=4\/n=5\/n=6\/n=7\/n=8:=OA
  all_goals (unfold wrap64;rfl)
 rw[e];go_ret;exact⟨rfl,(Ext.rfl' w).alloc _⟩
def Shots.ext{f:Option NP}{S:List Sh}(h:Shots w f S)(e:Ext w w'):Shots w' f S:=by
 intro i s hi;obtain⟨b,u,A,z,C,g⟩:=h i s hi;exact⟨b,u,A,e.lt z,C,e.cellS g.c0,e.cellS g.c1,e.cellS g.c2,e.cellS g.c3,e.cellS g.c4⟩
def DL(r0 r1 A z:Int)(f:Option NP)(g:Nat)(w:NL)(S:List Sh)(n:Nat)(L:S.length=n)(V:n<=8)(W:Shots w f S):
 NW prog 74 #[.agg (Zh r0 r1 A z f n g)] w λe w'=>∃B p,e= NK (NJ #[r0,r1,A,z,I f n g,I (U ⟨B,0,Z⟩) n n])/\Ext w w'/\Cv w' B n p (cvS r0 r1 A z S)/\w.heap.size<=B/\∀i,w.heap.size<=p i:=by
 have C:=curves_any r0 r1 A z f g;simp only[Zh]at C⊢;go_enter fk Tryz.func74,Tryz.ntmps74;go_wp2
 have H:Ext w ((w.alloc (Obj.cells #[Value.int IntKind.i64 r0,Value.int IntKind.i64 r1,Value.int IntKind.i64 A,Value.int IntKind.i64 z,Value.slice f n g] 31)).alloc
  (Obj.cells #[Value.int IntKind.i64 0,Value.int IntKind.i64 0,Value.int IntKind.i64 0,Value.int IntKind.i64 0,Value.slice Z 0 0,Value.slice Z 0 0] 136)):=((Ext.rfl' w).alloc _).alloc _
 have u:((w.alloc (Obj.cells #[Value.int IntKind.i64 r0,Value.int IntKind.i64 r1,Value.int IntKind.i64 A,Value.int IntKind.i64 z,Value.slice f n g] 31)).alloc
  (Obj.cells #[Value.int IntKind.i64 0,Value.int IntKind.i64 0,Value.int IntKind.i64 0,Value.int IntKind.i64 0,Value.slice Z 0 0,Value.slice Z 0 0] 136)).heap[w.heap.size]? =U (Obj.cells #[Value.int IntKind.i64 r0,Value.int IntKind.i64 r1,Value.int IntKind.i64 A,Value.int IntKind.i64 z,Value.slice f n g] 31):=by
  simp only[Z3,Z2];rw[XB OA,YZ trivial]
 have F:((w.alloc (Obj.cells #[Value.int IntKind.i64 r0,Value.int IntKind.i64 r1,Value.int IntKind.i64 A,Value.int IntKind.i64 z,Value.slice f n g] 31)).alloc
  (Obj.cells #[Value.int IntKind.i64 0,Value.int IntKind.i64 0,Value.int IntKind.i64 0,Value.int IntKind.i64 0,Value.slice Z 0 0,Value.slice Z 0 0] 136)).heap[w.heap.size+1]? =U (Obj.cells #[Value.int IntKind.i64 0,Value.int IntKind.i64 0,Value.int IntKind.i64 0,Value.int IntKind.i64 0,Value.slice Z 0 0,Value.slice Z 0 0] 136):=by
  simp only[Z3,Z2];rw[YZ trivial]
 generalize ((w.alloc (Obj.cells #[Value.int IntKind.i64 r0,Value.int IntKind.i64 r1,Value.int IntKind.i64 A,Value.int IntKind.i64 z,Value.slice f n g] 31)).alloc
  (Obj.cells #[Value.int IntKind.i64 0,Value.int IntKind.i64 0,Value.int IntKind.i64 0,Value.int IntKind.i64 0,Value.slice Z 0 0,Value.slice Z 0 0] 136))=w2 at H u F⊢
 have M:=W.ext H;have O:=Z0 u 0;have E:=Z0 u 1;have P:=Z0 u 2;have K:=Z0 u 3;have T:=Z0 u 4;simp only[YC,YA,YB]at O E P K T
 go_region_with (
  first|(go_at_call 114;refine(C _ S n L V (M.ext (Ext.rfl' w2).drew)).r λ_ M=> ?_;have E:=(Ext.rfl' w2).drew.trans M.ext;have C:=E.get u;have u:=E.get F;have q0:=Z0 C 0;have q1:=Z0 C 1;have q2:=Z0 C 2;have q3:=Z0 C 3;have q4:=Z0 C 4;have o0:=Z0 u 0;have o1:=Z0 u 1;have o2:=Z0 u 2;have o3:=Z0 u 3;have o4:=Z0 u 4;have o5:=Z0 u 5;have C:=Z8 u 0;have C:=Z8 u 1;have C:=Z8 u 2;have C:=Z8 u 3;have z4:=Z8 u 4;have C:=Z8 u 5;have K:=cv_of L M;simp only[YC,YA,YB]at q0 q1 q2 q3 q4 o0 o1 o2 o3 o4 o5))
 all_goals
  go_wp2;have C:=Z5 F;have C:=Zb u (i:=0) (NE J r0);have F:=Zb C (i:=1) (NE J r1);have u:=Zb F (i:=2) (NE J A);have C:=Zb u (i:=3) (NE J z);have u:=Zb C (i:=4) (I f n g);have F:=Zb u (i:=5) (I (U w2.heap.size) n n);have ge:=H.trans E;have E:w.heap.size<=w.heap.size+1:=OA
  have C:w2.drew.heap.size≠w.heap.size+1:=by show w2.heap.size≠_;omega
  have u:∀i,w2.drew.heap.size+(1+5*i+1)≠w.heap.size+1:=λi=>by show w2.heap.size+_≠_;omega
  refine VE (v:= NJ #[r0,r1,A,z,I f n g,I (U w2.heap.size) n n]) ((Q7 rfl _ _ _).trans ?_) rfl ⟨w2.heap.size,λi=>w2.heap.size+(1+5*i+1),rfl,(((((ge.setCell _ _ E).setCell _ _ E).setCell _ _ E).setCell _ _ E).setCell _ _ E).setCell _ _ E,(((((K.set C u _).set C u _).set C u _).set C u _).set C u _).set C u _,H.size,λi=>XC H.size (Nat.le_add_right _ _)⟩;have E:=Z0 F 0;have H:=Z0 F 1;have C:=Z0 F 2;have K:=Z0 F 3;have u:=Z0 F 4;have M:=Z0 F 5;simp at E H C K u M;simp[go_sem,E,H,C,K,u,M]
variable [Tw]
def okN(n hi:Int):Bool:=decide (0<=n/\n<=hi)
def Kr(r0 r1 f g:Int):Nat->Int
 |0=>r0
 |1=>r1
 |2=>f
 |_=>g
def f143(r0 r1 f g:Int)(i:Nat)(hi:i<4)(w:NL):(Instr.index 209 (NJ #[r0,r1,f,g]) (NE J i)).run gp w= .ok (NE J (Kr r0 r1 f g i)) w:=by
 obtain rfl|rfl|rfl|rfl:i=0\/i=1\/i=2\/i=3:=OA
 all_goals
  unfold Instr.index Go.part;simp[go_sem,run_asAgg,asIntOf,Kr]
def Tk{a b:Int}(h:a=b):Ending.returned (NE J a)=Ending.returned (NE J b):=by rw[h]
def Sw(r0 r1 f g:Int):Int:=if okN r0 999&&okN r1 999&&okN f 999&&okN g 999&&decide (r0<=r1)then 0 else 1
def lU(r0 r1 z g:Int)(u:Option NP)(n F:Nat)(w:NL):NW gp 82 #[.agg (Zh r0 r1 z g u n F)] w (OI (NE J (Sw r0 r1 z g)) w):=by
 simp only[Zh];go_enter fk Tryz.func82,Tryz.ntmps82;go_wp2;go_loopw [18] (λv wr=>∃i:Nat,i<=4/\v= NE J i/\wr.heap[w.heap.size+1]? =U (NH #[r0,r1,z,g] 28)/\Ext w wr/\∀j,j<i->okN (Kr r0 r1 z g j) 999=true) (λv _=>4 - (intOf v).toNat)
 case atStart=>
  refine⟨0,XL _,rfl,?_,((Ext.rfl' w).alloc _).alloc _,λj M=>by omega⟩;simp only[Z3,Z2];rw[YZ trivial]
 case round=>
  obtain⟨i,hi,rfl,K,H,f⟩:=hrel;have q0:=Z0 K 0;have q1:=Z0 K 1;simp only[YC,YA,YB]at q0 q1;by_cases P:i=4
  .subst P;have C:=f 0 OA;have E:=f 1 OA;have A:=f 2 OA;have L:=f 3 OA;clear f;simp only[Kr]at C E A L;go_wp2_with (first|go_at_call 64;refine(PU _ _ _).q ?_)
   all_goals
    go_ret;refine⟨?_,H⟩;simp only[Sw,C,E,A,L,TS,Bool.and_self];simp;omega
  .have A5:i<4:=OA
   have O:=λw=>f143 r0 r1 z g i A5 w
   go_wp2_with (first|go_at_call 65;refine(WK _ _ _ _).q ?_)
   .rename_i hb;go_ret;refine⟨Tk (a:=1) ?_,H⟩;simp at hb;rw[Sw,XB];simp only[okN];simp;intro C _ E _ A _ L _;obtain rfl|rfl|rfl|rfl:i=0\/i=1\/i=2\/i=3:=OA;all_goals simp only[Kr]at hb
    all_goals omega
   .rename_i hb;simp at hb;refine⟨⟨i+1,OA,by push_cast;rfl,K,H,?_⟩,by simp[intOf];omega⟩
    .intro j M;rcases TL.1 M with h|rfl
     .exact f j h
     .simp only[okN];simp;omega
structure Rs where
 a:Int
 m:Int
 M:Int
 wi:Int
 li:Int
def RawS(w:NL)(g:Option NP)(S:List Rs):Prop:=∀(i:Nat)(s:Rs),S[i]? =U s->∃b f,g=U ⟨b,f,Z⟩/\b<w.heap.size/\ShotAt w b (f+i*5) s.a s.m s.M s.wi s.li
def RawS.ext{f:Option NP}{S:List Rs}(h:RawS w f S)(e:Ext w w'):RawS w' f S:=by
 intro i s hi;obtain⟨b,u,A,z,g⟩:=h i s hi;exact⟨b,u,A,e.lt z,e.cellS g.c0,e.cellS g.c1,e.cellS g.c2,e.cellS g.c3,e.cellS g.c4⟩
def okS(s:Rs):Bool:=okN s.a 90&&decide (0<=s.m/\s.m<=s.M/\s.M<=99999)&&okN s.wi 9&&okN s.li 9
def Uk(S:List Rs):Int:=if 8<S.length then 2 else if S.all okS then 0 else 1
def nq{S:List Rs}{i:Nat}{s:Rs}(g:S[i]? =U s)(h:okS s=ND)(u:¬8<S.length):Uk S=1:=by
 rw[Uk,XB u,XB];rw[YL];intro f;have:=f s (YQ g);rw[h]at this;cases this
def fm(r0 r1 M L:Int)(f:Option NP)(n E:Nat)(S:List Rs)(w:NL)(T:S.length=n)(K:RawS w f S):NW gp 83 #[.agg (Zh r0 r1 M L f n E)] w (OI (NE J (Uk S)) w):=by
 simp only[Zh];go_enter fk Tryz.func83,Tryz.ntmps83;go_wp2
 .rename_i Jc;go_ret;refine⟨Tk (a:=2) ?_,(Ext.rfl' w).alloc _⟩;rw[Uk,YZ OA]
 .rename_i Bz;go_loopw [14] (λv wr=>∃i:Nat,i<=n/\v= NE J i/\Ext w wr/\∀j s,j<i->S[j]? =U s->okS s=true) (λv _=>n - (intOf v).toNat)
  case atStart=>
   exact⟨0,XL _,rfl,((Ext.rfl' w).alloc _),λj s C=>by omega⟩
  case round=>
   obtain⟨i,hi,rfl,u,H⟩:=hrel;have z:=K.ext u;by_cases P:i=n
   .subst P;go_wp2;go_ret;refine⟨Tk (a:=0) ?_,u⟩;rw[Uk,XB OA,YZ];rw[YL];intro s A;obtain⟨j,C,O⟩:=List.mem_iff_getElem.1 A;exact H j s OA (by rw[<-O];exact YH C)
   .have A5:i<n:=OA;obtain⟨s,A⟩:∃s,S[i]? =U s:=⟨_,YH OA⟩;obtain⟨b,_,rfl,_,_,_,_,_,_⟩:=z i s A;clear K z;go_wp2_with (first|go_at_call 65;refine(WK _ _ _ _).q ?_|go_at_call 113;refine(Pa _ _).q ?_|go_at_call 119;refine(A9 _ _ _ _ _).q ?_);all_goals (try simp only[XZ,Bool.not_eq_false',decide_eq_false_iff_not,XE]at*)
    all_goals first
     |(go_ret
       refine⟨Tk (a:=1) (nq A ?_ OA).symm,by first|exact(u.alloc _).alloc _|exact u.alloc _⟩;rw[Bool.eq_false_iff];intro h;simp[okS,okN]at h;omega)
     |(refine⟨⟨i+1,OA,by push_cast;rfl,(by first|exact(u.alloc _).alloc _|exact u.alloc _),λj F C g=> ?_⟩,by simp[intOf];omega⟩
       rcases TL.1 C with h|rfl
       .exact H j F h g
       .obtain rfl:s=F:=(by rw[A]at g;exact YT g);simp[okS,okN];omega)
variable [Tw]
def firstV:List Int->Int
 |[]=>0
 |x::l=>if x=0 then firstV l else x
def firstV_zero:∀{l:List Int},(∀(i:Nat)(x:Int),l[i]? =U x->x=0)->firstV l=0
 |[],_=>rfl
 |x::l,h=>by
  have f:=h 0 x rfl;rw[firstV,YZ f];exact firstV_zero λi y f=>h (i+1) y f
def firstV_at:∀{l:List Int}{i:Nat}{x:Int},l[i]? =U x->x≠0->(∀(j:Nat)(y:Int),j<i->l[j]? =U y->y=0)->firstV l=x
 |[],i,x,h,_,_=>by simp at h
 |y::l,0,x,h,hx,_=>by
  simp at h;subst h;rw[firstV,XB hx]
 |y::l,i+1,x,h,hx,hz=>by
  rw[firstV,YZ (hz 0 y OA rfl)];exact firstV_at h hx λj z _ f=>hz (j+1) z OA f
def Hu(B n g:Nat)(u:Nat->FuncId)(z cv:Nat->Array NM)(r:List Int)(K:r.length=n)(H:n<=8)(w:NL)
 (F:∀i,i<n->w.cell? ⟨B,i,Z⟩=U (.func (.func (u i)) (z i) (cv i)))
 (E:∀i,i<n->∀f w',(callFunc (u i) f).run gp w'= .ok (.enter (u i) f) w')
 (D0:∀i x,r[i]? =U x->∀w',Ext w w'->NW gp (u i) (z i++cv i) w' (OI (NE J x) w')):
 NW gp 61 #[I (U B) n g] w (OI (NE J (firstV r)) w):=by
 have A:∀i,i<n->r[i]? =U (r.getD i 0):=λi hi=>by
  rw[List.getD_eq_getElem?_getD,YH OA];rfl
 refine(DZ B n g H u z cv (λ_ w'=>Ext w w') (λw'=>Ext w w') (λi=>r.getD i 0) w (λi hi w' f=>f.cellS (F i hi)) E ?_ (Ext.rfl' w)).mono ?_
 .intro i hi w' f;refine(D0 i _ (A i hi) w' f).r λw'' C=> ?_;exact⟨rfl,λ_=>f.trans C,λ_=>f.trans C⟩
 .rintro e w' ⟨v,rfl,⟨rfl,f,hz⟩|⟨i,hi,Ab,rfl,hz,f⟩⟩
  .refine⟨?_,f⟩;rw[firstV_zero];intro i x C;have hi:=(YI.1 C).1;have:=hz i OA;rw[List.getD_eq_getElem?_getD,C]at this;exact this
  .refine⟨?_,f⟩;rw[firstV_at (A i hi) Ab];intro j y i f;have:=hz j i;rw[List.getD_eq_getElem?_getD,f]at this;exact this
def ZC(r0 r1 f g:Int)(S:List Rs):Int:=firstV [Sw r0 r1 f g,Uk S]
def P8(r0 r1 u z:Int)(f:Option NP)(n g:Nat)(S:List Rs)(w:NL)(F:S.length=n)(H:RawS w f S):
 NW gp 43 #[.agg (Zh r0 r1 u z f n g)] w (OI (NE J (ZC r0 r1 u z S)) w):=by
 simp only[Zh];go_enter fk Tryz.func43,Tryz.ntmps43
 go_wp2_with (
  go_at_call 61
  have A:Ext w _:=(((Ext.rfl' w).alloc (NH #[r0,r1,u,z,I f n g] 31)).alloc (NH #[r0,r1,u,z,I f n g] 132)).alloc (NH #[.func (.func 82) #[NJ #[r0,r1,u,z,I f n g]] #[],.func (.func 83) #[NJ #[r0,r1,u,z,I f n g]] #[]] 129);have C:=Z3 ((w.alloc (NH #[r0,r1,u,z,I f n g] 31)).alloc (NH #[r0,r1,u,z,I f n g] 132)) (NH #[.func (.func 82) #[NJ #[r0,r1,u,z,I f n g]] #[],.func (.func 83) #[NJ #[r0,r1,u,z,I f n g]] #[]] 129) (w.heap.size+1+1);rw[YZ (by simp only[Z2])]at C;generalize World.alloc _ _=E at A C⊢;refine(Hu (w.heap.size+1+1) 2 2 (λi=>if i=0 then 82 else 83) (λi=> #[NJ #[r0,r1,u,z,I f n g]]) (λi=> #[]) [Sw r0 r1 u z,Uk S] rfl OA E ?_ ?_ ?_).mono ?_
  .intro i hi;rw[Z0 C];obtain rfl|rfl:i=0\/i=1:=OA
   .rfl
   .rfl
  .intro i hi args w';obtain rfl|rfl:i=0\/i=1:=OA
   .simp[go_sem]
   .simp[go_sem]
  .intro i x hx w' hE'
   match i,hx with
   |0,hx=>
    obtain rfl:=YT hx;exact lU r0 r1 u z f n g w'
   |1,hx=>
    obtain rfl:=YT hx;exact fm r0 r1 u z f n g S w' F (H.ext (A.trans hE'))
  rintro e _ ⟨rfl,i⟩)
 go_ret;exact⟨rfl,A.trans i⟩
end
section
open Go Go.Nk Go.RowKit
def Zv(a:Int):Int:=if okN a 90 then 0 else 1
def L6(b:Nat)(f:Int)(w:NL)(g:w.cell? ⟨b,0,Z⟩=U (NE J f)):NW prog 112 #[NI (U b)] w (OI (NE J (Zv f)) w):=by
 go_enter fk Tryz.func112,Tryz.ntmps112;go_wp2_with (first|go_at_call 113;refine(Pa _ _).q ?_|go_at_call 64;refine(PU _ _ _).q ?_)
 all_goals
  go_ret;refine⟨Tk ?_,Ext.rfl' _⟩;simp only[Zv,okN];simp_all
  try omega
def pq(f:Int)(w:NL):NW prog 68 #[f] w λe w'=>e= NK (.func (.func 112) #[] #[NI (U w.heap.size)])/\w'=w.alloc (NH #[f] 3):=by
 go_enter fk Tryz.func68,Tryz.ntmps68;go_wp2;go_ret;exact⟨rfl,rfl⟩
def kJ(r0 r1 u z:Int)(f:Option NP)(n g:Nat)(S:List Rs)(w:NL)(C:S.length=n)(E:RawS w f S)(b:Nat)(i:w.heap[b]? =U (NH #[r0,r1,u,z,I f n g] 31)):
 NW prog 62 #[NI (U b)] w (OI (NE J (ZC r0 r1 u z S)) w):=by
 have A:=P8 r0 r1 u z f n g S w C E;simp only[Zh]at A;have q0:=Z0 i 0;have q1:=Z0 i 1;have q2:=Z0 i 2;have q3:=Z0 i 3;have q4:=Z0 i 4;simp only[YC,YA,YB]at q0 q1 q2 q3 q4;go_enter fk Tryz.func62,Tryz.ntmps62;go_wp2_with (first|go_at_call 43;refine A.r λ_ A=> ?_);go_ret;exact⟨rfl,A⟩
def ms(r0 r1 u z:Int)(f:Option NP)(n g:Nat)(S:List Rs)(w:NL)(C:S.length=n)(E:RawS w f S)(b:Nat)(i:w.heap[b]? =U (NH #[r0,r1,u,z,I f n g] 31)):
 NW prog 108 #[NI (U b)] w (OI (NE J (ZC r0 r1 u z S)) w):=by
 have A:=P8 r0 r1 u z f n g S w C E;simp only[Zh]at A;have q0:=Z0 i 0;have q1:=Z0 i 1;have q2:=Z0 i 2;have q3:=Z0 i 3;have q4:=Z0 i 4;simp only[YC,YA,YB]at q0 q1 q2 q3 q4;go_enter fk Tryz.func108,Tryz.ntmps108;go_wp2_with (first|go_at_call 43;refine A.r λ_ A=> ?_);go_ret;exact⟨rfl,A⟩
def OQ(n:Nat)(k:Int):Int:=if 0<=k/\k<n then 0 else 6
def iR(r0 r1 z A:Int)(f:Option NP)(n i:Nat)(F:n<=20)(w:NL)(b:Nat)(g:w.heap[b]? =U (NH #[r0,r1,z,A,I f n i] 31))(u:Nat)(k:Int)(C:w.cell? ⟨u,0,Z⟩=U (NE J k)):
 NW prog 63 #[NI (U u),NI (U b)] w (OI (NE J (OQ n k)) w):=by
 have E:wrap64 ((n:Int) - 1)=(n:Int) - 1:=by unfold wrap64;omega
 have q0:=Z0 g 0;have q1:=Z0 g 1;have q2:=Z0 g 2;have q3:=Z0 g 3;have q4:=Z0 g 4;simp only[YC,YA,YB]at q0 q1 q2 q3 q4;go_enter fk Tryz.func63,Tryz.ntmps63;go_wp2_with (first|go_at_call 65;refine(WK _ _ _ _).q ?_|go_at_call 64;refine(PU _ _ _).q ?_)
 all_goals
  go_ret;refine⟨Tk ?_,Ext.rfl' _⟩;simp only[OQ];simp_all
  try omega
def M9(n:Nat):Int:=if n=0 then 9 else 0
def nk(r0 r1 u z:Int)(f:Option NP)(n i:Nat)(w:NL)(b:Nat)(g:w.heap[b]? =U (NH #[r0,r1,u,z,I f n i] 31)):
 NW prog 109 #[NI (U b)] w (OI (NE J (M9 n)) w):=by
 have q0:=Z0 g 0;have q1:=Z0 g 1;have q2:=Z0 g 2;have q3:=Z0 g 3;have q4:=Z0 g 4;simp only[YC,YA,YB]at q0 q1 q2 q3 q4;go_enter fk Tryz.func109,Tryz.ntmps109;go_wp2_with (first|go_at_call 64;refine(PU _ _ _).q ?_)
 all_goals
  go_ret;refine⟨Tk ?_,Ext.rfl' _⟩;simp only[M9];simp_all
  try omega
end
end Go.Proofs.Tryq
section
namespace Go.Proofs.Tryq
open Go Go.Nk Go.RowKit
structure ExtB(bs:Nat)(w w':NL):Prop where
 size:w.heap.size<=w'.heap.size
 old:∀b,b<w.heap.size->b≠bs->w'.heap[b]? =w.heap[b]?
 tape:w'.tape=w.tape
 os:w'.os=w.os
 output:w'.output=w.output
namespace ExtB
def of(h:Ext w w'):ExtB bs w w':=⟨h.size,λb f _=>h.old b f,h.tape,h.os,h.output⟩
def trans(h:ExtB bs w w')(f:ExtB bs w' w''):ExtB bs w w'':=⟨XC h.size f.size,λb i g=>(f.old b (YS i h.size) g).trans (h.old b i g),f.tape.trans h.tape,f.os.trans h.os,f.output.trans h.output⟩
def set(h:ExtB bs w w')(i:Nat)(v:NM):ExtB bs w (w'.setCell ⟨bs,i,Z⟩ v):=by
 have f:=VT w' ⟨bs,i,Z⟩ v;exact⟨by rw[f.size];exact h.size,λb u g=>(f.block b g).trans (h.old b u g),f.tape.trans h.tape,f.os.trans h.os,f.output.trans h.output⟩
def ext(h:ExtB bs w w')(g:w.heap.size<=bs):Ext w w':=⟨h.size,λb f=>h.old b f OA,h.tape,h.os,h.output⟩
def get(h:ExtB bs w w'){b:Nat}{o:Obj}(g:b≠bs)(f:w.heap[b]? =U o):w'.heap[b]? =U o:=(h.old b (YF.1 f).1 g).trans f
def cellS(h:ExtB bs w w'){a:NP}{v:NM}(i:a.block≠bs)(f:w.cell? a=U v):w'.cell? a=U v:=by
 have g:a.block<w.heap.size:=by
  unfold World.cell? at f;split at f
  .rename_i hh;exact(YF.1 hh).1
  .cases f
 simp only[World.cell?,h.old _ g i];exact f
def before(f:ExtB bs w' w'')(h:Ext w w')(g:w.heap.size<=bs):Ext w w'':=((of h:ExtB bs w w').trans f).ext g
def cv(h:ExtB bs w w'){B n:Nat}{p:Nat->Nat}{C:Nat->Nat->Int×Int}(g:Cv w B n p C)(z:B≠bs)(u:∀i,p i≠bs):Cv w' B n p C:=
 ⟨λi hi=>h.cellS z (g.ptr i hi),λi d hi f=>h.cellS (u i) (g.lo i d hi f),λi d hi f=>h.cellS (u i) (g.hi i d hi f)⟩
def most(h:ExtB bs w w')(g:Most w)(f:1≠bs):Most w':=⟨h.cellS f g.m0,h.cellS f g.m1⟩
end ExtB
def HC(h:w.heap[bs]? =U (NH #[o0,o1,o2,o3,o4,o5] t))(u i g f z A:NM):
 ((((((w.setCell bs u).setCell ⟨bs,1,Z⟩ i).setCell ⟨bs,2,Z⟩ g).setCell ⟨bs,3,Z⟩ f).setCell ⟨bs,4,Z⟩ z).setCell ⟨bs,5,Z⟩ A).heap[bs]? =U (NH #[u,i,g,f,z,A] t)/\
 ExtB bs w ((((((w.setCell bs u).setCell ⟨bs,1,Z⟩ i).setCell ⟨bs,2,Z⟩ g).setCell ⟨bs,3,Z⟩ f).setCell ⟨bs,4,Z⟩ z).setCell ⟨bs,5,Z⟩ A):=
 ⟨Zb (Zb (Zb (Zb (Zb (Zb h u) i) g) f) z) A,((((((ExtB.of (Ext.rfl' w)).set _ _).set _ _).set _ _).set _ _).set _ _).set _ _⟩
def D2(b:Bool)(f:Int):Int:=if b then f else 0
def fi(b:Bool)(f:Int)(w:NL):NW prog 64 #[.bool b,f] w (OJ (NE J (D2 b f)) w):=PU b f w
def Ov(r0 r1 f g:Int)(S:List Sh):Int:=if Zz (cvS r0 r1 f g S) (2 ^ S.length - 1) S.length then 0 else 10
def nQ(r0 r1 A z:Int)(f:Option NP)(g:Nat)(w:NL)(S:List Sh)(n:Nat)(A1:S.length=n)(Y:n<=8)(hS:Shots w f S)(b bs:Nat)(H:w.heap[b]? =U (NH #[r0,r1,A,z,I f n g] 31))
 (X:Most w)(h1:bs≠1)(a0 a1 a2 a3 a4 a5:NM)(F2:w.heap[bs]? =U (NH #[a0,a1,a2,a3,a4,a5] 136)):
  NW prog 110 #[NI (U b),NI (U bs)] w λe w'=>e= NK (NE J (Ov r0 r1 A z S))/\ExtB bs w w'/\∃B p,w'.heap[bs]? =U (NH #[r0,r1,A,z,I f n g,I (U ⟨B,0,Z⟩) n n] 136)/\Cv w' B n p (cvS r0 r1 A z S)/\w.heap.size<=B/\∀i,w.heap.size<=p i:=by
 have Mo:=DL r0 r1 A z f g w S n A1 Y hS;simp only[Zh]at Mo;have q0:=Z0 H 0;have q1:=Z0 H 1;have q2:=Z0 H 2;have q3:=Z0 H 3;have q4:=Z0 H 4;simp only[YC,YA,YB]at q0 q1 q2 q3 q4;have Pz:(0:Int)<=2 ^ n - 1/\(2:Int) ^ n - 1<256:=by
  obtain rfl|rfl|rfl|rfl|rfl|rfl|rfl|rfl|rfl:n=0\/n=1\/n=2\/n=3\/n=4\/n=5\/n=6\/n=7\/n=8:=OA
  all_goals decide
 have Gj:=λB p w X V=>bf r0 r1 A z (I f n g) B n (2 ^ n - 1) p (cvS r0 r1 A z S) Y Pz w X V
 have C3:=λv w=>N9 r0 r1 A z f n g v Y w
 go_enter fk Tryz.func110,Tryz.ntmps110;go_wp2_with (first|(go_at_call 74;refine Mo.mono ?_;rintro e w2 ⟨B,p,rfl,A2,V,hB,F⟩;have u:=A2.get F2;have z0:=Z8 u 0;have z1:=Z8 u 1;have z2:=Z8 u 2;have z3:=Z8 u 3;have z4:=Z8 u 4;have z5:=Z8 u 5;have P:=Z0 u 0;have K:=Z0 u 1;have T:=Z0 u 2;have L:=Z0 u 3;have O:=Z0 u 4;have M:=Z0 u 5;simp only[YC,YA,YB]at P K T L O M));have A5:=Z5 F2;have W:ExtB bs w ((((((w2.setCell {block:=bs,off:=0} (Value.int IntKind.i64 r0)).setCell {block:=bs,off:=1} (Value.int IntKind.i64 r1)).setCell {block:=bs,off:=2} (Value.int IntKind.i64 A)).setCell {block:=bs,off:=3} (Value.int IntKind.i64 z)).setCell {block:=bs,off:=4} (Value.slice f n g)).setCell {block:=bs,off:=5} (Value.slice (U {block:=B,off:=0}) n n)):=((((((ExtB.of A2).set _ _).set _ _).set _ _).set _ _).set _ _).set _ _;have F6:=(((((V.set (a:=⟨bs,0,Z⟩) (by simp;omega) (λi=>by have:=F i;simp;omega) (NE J r0)).set (a:=⟨bs,1,Z⟩) (by simp;omega) (λi=>by have:=F i;simp;omega) (NE J r1)).set (a:=⟨bs,2,Z⟩) (by simp;omega) (λi=>by have:=F i;simp;omega) (NE J A)).set (a:=⟨bs,3,Z⟩) (by simp;omega) (λi=>by have:=F i;simp;omega) (NE J z)).set (a:=⟨bs,4,Z⟩) (by simp;omega) (λi=>by have:=F i;simp;omega) (I f n g)).set (a:=⟨bs,5,Z⟩) (by simp;omega) (λi=>by have:=F i;simp;omega) (I (U B) n n)
 have C1:=Zb (Zb (Zb (Zb (Zb (Zb u (i:=0) (NE J r0)) (i:=1) (NE J r1)) (i:=2) (NE J A)) (i:=3) (NE J z)) (i:=4) (I f n g)) (i:=5) (I (U B) n n);have E:_=U (Obj.cells #[r0,r1,A,z,I f n g,I (U B) n n] 136):=C1;clear C1 z0 z1 z2 z3 z4 z5 P K T L O M V q0 q1 q2 q3 q4 u;generalize World.setCell _ ⟨bs,5,Z⟩ _=w3 at W F6 E⊢;have Q0:Most w3:=⟨W.cellS (by simp;omega) X.m0,W.cellS (by simp;omega) X.m1⟩;have P:=Z0 E 0;have K:=Z0 E 1;have T:=Z0 E 2;have L:=Z0 E 3;have O:=Z0 E 4;have M:=Z0 E 5;simp only[YC,YA,YB]at P K T L O M
 go_region_with (
  first|(go_at_call 70;refine(C3 _ _).r λ_ Ag=> ?_;have C:=(Ext.rfl' w3).drew.trans Ag;have x0:=C.cellS P;have x1:=C.cellS K;have x2:=C.cellS T;have x3:=C.cellS L;have x4:=C.cellS O;have x5:=C.cellS M)|go_at_call 111;refine(Gj _ _ _ (Q0.ext C) (F6.ext C)).r λ_ B0=> ?_|go_at_call 64;refine(fi _ _ _).q ?_)
 all_goals
  go_wp2;have Cw:=C.trans B0;go_ret;refine⟨Tk ?_,W.trans (ExtB.of Cw),B,p,Cw.get E,F6.ext Cw,hB,F⟩;subst A1;simp only[D2,Ov];cases Zz (cvS r0 r1 A z S) (2 ^ S.length - 1) S.length
  .rfl
  .rfl
end Go.Proofs.Tryq
end
