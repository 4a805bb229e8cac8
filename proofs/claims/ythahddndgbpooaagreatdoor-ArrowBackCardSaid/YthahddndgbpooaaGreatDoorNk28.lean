import Derived.Test.YthahddndgbpooaaGreatDoorNkA
import Derived.Test.YthahddndgbpooaaGreatDoorNk27
set_option linter.all false
set_option maxRecDepth 100000
set_option maxHeartbeats 4000000
open Go Go.Nk Go.RowKit
variable {fn:Func}{b:Int}{B n:Nat}{p:Nat->Nat}{c:Tmp}{ty:TypeId}{w:World}
namespace Go.Proofs.Tryq
theorem Z3R{a p:Tmp}(h:fn.results= #[.tmp a,.cell p ty,.tmp c])(tmps:Array Value)(P:Program)(w:World):
 (results fn tmps).run P w=((asAddr (tmps.getD p undef)).run P w).andThen λx w₁=>((loadVar ty x).run P w₁).andThen λv w₂=> .ok (.tuple #[tmps.getD a undef,v,tmps.getD c undef]) w₂:=by
 simp only[results,h];simp[UM,Result.andThen]
def ZG(C:Nat->Int×Int)(a:Nat):Nat->Nat×Int×Int
 |0=>(a,C a)
 |k+1=>if wrap64 ((ZG C a k).2.2 - (ZG C a k).2.1)<wrap64 ((C (a+1+k)).2 - (C (a+1+k)).1) then(a+1+k,C (a+1+k)) else ZG C a k
def Z1O(r0 r1 r2 r3:Int)(S:List Rs)(a b:Int):Int:=firstV (Zy r0 r1 r2 r3 S [Zv a,Zv b,Z6v a b])
def ZaT(r0 r1 r2 r3:Int)(S:List Rs)(a b:Int):Int×Int×Int:=if Z1O r0 r1 r2 r3 S a b=0 then
    (((ZG (λd=>atF (cvS r0 r1 r2 r3 (S.map Ze)) (2 ^ S.length - 1) d S.length) a.toNat (b - a).toNat).1:Int),(ZG (λd=>atF (cvS r0 r1 r2 r3 (S.map Ze)) (2 ^ S.length - 1) d S.length) a.toNat (b - a).toNat).2) else(0,0,0)
theorem ZaI{a:Int}(h:Z6v a b=0):a<=b:=by
 unfold Z6v at h;split at h
 ·omega
 ·omega
theorem Cv.setPair{C:Nat->Nat->Int×Int}(h:Cv w B n p C){b:Nat}{x y:Int}{t:TypeId}(hb:w.heap[b]? =some (.cells #[x,y] t))(i:Nat)(v:Value):Cv (w.setCell ⟨b,i,none⟩ v) B n p C:=by
 have hB:∀i,i<n->B≠b:=by
  rintro i hi rfl;have:=h.ptr i hi;rw[Z0 hb] at this
  match i,this with
  |0,this=>simp at this
  |1,this=>simp at this
  |i+2,this=>simp at this
 have hp:∀i,i<n->p i≠b:=by
  rintro i hi rfl;have:=h.lo i 90 hi (by omega);rw[Z0 hb] at this;simp at this
 have key:∀c j,c≠b->(w.setCell ⟨b,i,none⟩ v).cell? ⟨c,j,none⟩=w.cell? ⟨c,j,none⟩:=λc j hc=>by simp only[World.cell?,set_ne (w:=w) (a:=⟨b,i,none⟩) (b:=c) hc v]
 exact⟨λj hj=>(key _ _ (hB j hj)).trans (h.ptr j hj),λj d hj hd=>(key _ _ (hp j hj)).trans (h.lo j d hj hd),λj d hj hd=>(key _ _ (hp j hj)).trans (h.hi j d hj hd)⟩
theorem Cv.setPair2{C:Nat->Nat->Int×Int}(h:Cv w B n p C){b:Nat}{x y:Int}{t:TypeId}(hb:w.heap[b]? =some (.cells #[x,y] t))(x' y':Int):Cv ((w.setCell ⟨b,0,none⟩ (.int .i64 x')).setCell ⟨b,1,none⟩ (.int .i64 y')) B n p C:=
 (h.setPair hb 0 _).setPair (x:=x') (y:=y) (Zb hb _) 1 _
theorem Z8G(r0 r1 r2 r3:Int)(base:Option Addr)(n cap:Nat)(w:World)(at' to':Int)(S:List Rs)(A1:S.length=n)(hS:RawS w base S)(Eb:Most w):
 Calls prog 29 #[.agg #[r0,r1,r2,r3,.slice base n cap],at',to'] w λe w'=>
  e= .returned (.tuple #[.int .i64 (ZaT r0 r1 r2 r3 S at' to').1,.agg #[.int .i64 (ZaT r0 r1 r2 r3 S at' to').2.1,.int .i64 (ZaT r0 r1 r2 r3 S at' to').2.2],.int .i64 (Z1O r0 r1 r2 r3 S at' to')])/\Ext w w':=by
 go_enter fk Tryz.func29,Tryz.ntmps29;go_wp2_with fail;have Ab:Ext w _:=((((Ext.rfl' w).alloc (.cells #[r0,r1,r2,r3,.slice base n cap] 31)).alloc (.cells #[at'] 3)).alloc (.cells #[to'] 3)).alloc (.cells #[.int .i64 0,.int .i64 0] 49);have hb:((((w.alloc (.cells #[r0,r1,r2,r3,.slice base n cap] 31)).alloc (.cells #[at'] 3)).alloc (.cells #[to'] 3)).alloc (.cells #[.int .i64 0,.int .i64 0] 49)).heap[w.heap.size]? =some (.cells #[r0,r1,r2,r3,.slice base n cap] 31):=by
  simp only[Z3,Z2];rw[XA (by omega),XA (by omega),XA (by omega),YZ trivial]
 have hZ:((((w.alloc (.cells #[r0,r1,r2,r3,.slice base n cap] 31)).alloc (.cells #[at'] 3)).alloc (.cells #[to'] 3)).alloc (.cells #[.int .i64 0,.int .i64 0] 49)).heap[w.heap.size+1]? =some (.cells #[at'] 3):=by
  simp only[Z3,Z2];rw[XA (by omega),XA (by omega),YZ trivial]
 have hY:((((w.alloc (.cells #[r0,r1,r2,r3,.slice base n cap] 31)).alloc (.cells #[at'] 3)).alloc (.cells #[to'] 3)).alloc (.cells #[.int .i64 0,.int .i64 0] 49)).heap[w.heap.size+1+1]? =some (.cells #[to'] 3):=by
  simp only[Z3,Z2];rw[XA (by omega),YZ trivial]
 have hT:((((w.alloc (.cells #[r0,r1,r2,r3,.slice base n cap] 31)).alloc (.cells #[at'] 3)).alloc (.cells #[to'] 3)).alloc (.cells #[.int .i64 0,.int .i64 0] 49)).heap[w.heap.size+1+1+1]? =some (.cells #[.int .i64 0,.int .i64 0] 49):=by
  simp only[Z3,Z2];rw[YZ trivial]
 generalize World.alloc _ _=w1 at Ab hb hZ hY hT⊢;have hX:=Ext.rfl' w1;have q0:=Z0 hb 0;have q1:=Z0 hb 1;have q2:=Z0 hb 2;have q3:=Z0 hb 3;have q4:=Z0 hb 4;simp only[YC,YA,YB] at q0 q1 q2 q3 q4;have g0:=Zet q0;have g1:=Zet q1;have g2:=Zet q2;have g3:=Zet q3;have g4:=Zet q4;have r1':w1.cell? ⟨w.heap.size+1,0,none⟩=some (.int .i64 at'):=by rw[Z0 hZ];rfl
 have r2':w1.cell? ⟨w.heap.size+1+1,0,none⟩=some (.int .i64 to'):=by rw[Z0 hY];rfl
 have g5:=Zet r1';have g6:=Zet r2';refine Zfn 12 11 9 [0,1,2,3,4,5,6,7,8,9] (.cells #[.int .i64 0,.int .i64 0,.int .i64 0,.int .i64 0,.slice none 0 0,.slice none 0 0] 136) (by kernel_rfl) rfl (by kernel_rfl) rfl rfl (λa W=>by simp[go_sem,execOp,Act.eval]) ?_;refine Zfj [0,1,3,5] (by kernel_rfl) rfl rfl (by kernel_rfl) ?_;simp only[ZeD,YB,YA,YK,YJ]
 repeat (go_big_quiet_step (fail))
 refine XU ?_;refine Zfk 2 rfl (by kernel_rfl) rfl (λW hW=>Zfo (f:=68) (args:= #[at']) (by simp[go_sem,execOp,Act.eval]) ?_);refine(Z9v at' W).mono ?_;rintro e V0 ⟨p0,rfl,hF,Do⟩;refine⟨.func (.func 112) #[] #[.pointer (some ⟨p0,0,none⟩)],rfl,hF,?_⟩;replace hX:=hX.trans (hW.trans hF);clear hF hW;go_simp;refine Zfk 4 rfl (by kernel_rfl) rfl (λW hW=>Zfo (f:=68) (args:= #[to']) (by simp[go_sem,execOp,Act.eval]) ?_);refine(Z9v to' W).mono ?_;rintro e V1 ⟨p1,rfl,hF,Ep⟩;refine⟨.func (.func 112) #[] #[.pointer (some ⟨p1,0,none⟩)],rfl,hF,?_⟩;replace hX:=hX.trans (hW.trans hF);replace Do:=(hW.trans hF).cellS Do;clear hF hW;go_simp;refine Zfk 6 rfl (by kernel_rfl) rfl (λW hW=>Zf3 ⟨.slice (some ⟨W.heap.size,0,none⟩) 3 3,W.alloc (.cells #[.func (.func 112) #[] #[.pointer (some ⟨p0,0,none⟩)],.func (.func 112) #[] #[.pointer (some ⟨p1,0,none⟩)],.func (.func 73) #[] #[.pointer (some ⟨w.heap.size+1,0,none⟩),.pointer (some ⟨w.heap.size+1+1,0,none⟩)]] 129),by simp[go_sem,execOp,Act.eval],(Ext.rfl' W).alloc _,?_⟩);have B3:=Z30 W #[.func (.func 112) #[] #[.pointer (some ⟨p0,0,none⟩)],.func (.func 112) #[] #[.pointer (some ⟨p1,0,none⟩)],.func (.func 73) #[] #[.pointer (some ⟨w.heap.size+1,0,none⟩),.pointer (some ⟨w.heap.size+1+1,0,none⟩)]] [(112,#[],#[.pointer (some ⟨p0,0,none⟩)]),(112,#[],#[.pointer (some ⟨p1,0,none⟩)]),(73,#[],#[.pointer (some ⟨w.heap.size+1,0,none⟩),.pointer (some ⟨w.heap.size+1+1,0,none⟩)])] W.heap.size rfl rfl
 have hF:=(hW.alloc (.cells #[.func (.func 112) #[] #[.pointer (some ⟨p0,0,none⟩)],.func (.func 112) #[] #[.pointer (some ⟨p1,0,none⟩)],.func (.func 73) #[] #[.pointer (some ⟨w.heap.size+1,0,none⟩),.pointer (some ⟨w.heap.size+1+1,0,none⟩)]] 129));replace hX:=hX.trans hF;replace Do:=hF.cellS Do;replace Ep:=hF.cellS Ep;clear hF hW;generalize W.heap.size=B2 at B3⊢;generalize World.alloc W _=V9 at*;go_simp;refine Zfk 7 rfl (by kernel_rfl) rfl (λW hW=>Zfo (f:=67) (args:= #[.agg #[r0,r1,r2,r3,.slice base n cap],.slice (some ⟨B2,0,none⟩) 3 3]) (by simp[go_sem,execOp,Act.eval]) ?_)
 refine(Z4K r0 r1 r2 r3 base n cap W 3 B2 (by omega) [(112,#[],#[.pointer (some ⟨p0,0,none⟩)]),(112,#[],#[.pointer (some ⟨p1,0,none⟩)]),(73,#[],#[.pointer (some ⟨w.heap.size+1,0,none⟩),.pointer (some ⟨w.heap.size+1+1,0,none⟩)])] [Zv at',Zv to',Z6v at' to'] rfl rfl (λj x hj=>hW.cellS (B3 j x hj)) (by intro x hx args w';simp only[XE,XL,VO] at hx;rcases hx with rfl|rfl|rfl<;>simp[go_sem]) (by
       intro j x r hj hr w' hw'
       match j,hj,hr with
       |0,hj,hr=>
        obtain rfl:=YT hj;obtain rfl:=YT hr;exact Z3x p0 at' w' ((hW.trans hw').cellS Do)
       |1,hj,hr=>
        obtain rfl:=YT hj;obtain rfl:=YT hr;exact Z3x p1 to' w' ((hW.trans hw').cellS Ep)
       |2,hj,hr=>
        obtain rfl:=YT hj;obtain rfl:=YT hr;exact ZcZ _ _ at' to' w' ((hX.trans (hW.trans hw')).cellS r1') ((hX.trans (hW.trans hw')).cellS r2')) S A1 (hS.ext (Ab.trans (hX.trans hW))) (Eb.ext (Ab.trans (hX.trans hW)))).mono ?_
 rintro e V10 ⟨k0,k1,k2,k3,b4,n4,c4,b5,n5,c5,rfl,hF,Ck⟩;refine⟨.tuple #[.agg #[k0,k1,k2,k3,.slice b4 n4 c4,.slice b5 n5 c5],.int .i64 (firstV (Zy r0 r1 r2 r3 S [Zv at',Zv to',Z6v at' to']))],rfl,hF,?_⟩;replace hX:=hX.trans (hW.trans hF);have Au:Askd r0 r1 r2 r3 base n cap S [Zv at',Zv to',Z6v at' to'] k0 k1 k2 k3 b4 n4 c4 b5 n5 c5 V10:=λh=>by obtain⟨B,p,h0,h1,h2,h3,h4,h5,h6,h7,h8,h9,hC,_⟩:=Ck h;exact⟨B,p,h0,h1,h2,h3,h4,h5,h6,h7,h8,h9,hC⟩
 clear hF hW Ck B3 Do Ep;go_simp;refine Zfj [8,9,10] (by kernel_rfl) rfl rfl (by kernel_rfl) ?_;simp only[ZeD,YB,YA,YK,YJ]
 repeat (go_big_quiet_step (fail))
 refine XU ?_;refine Zfq (by kernel_rfl) (λW hW b hA Bw Am=> ?_);have Ha:w1.heap.size<=b:=hA.1.1.1.1;replace hX:=hX.trans hW;replace Au:=Au.ext hW;clear r1' r2' g5 g6;clear hW;go_simp;refine Zfp 2 (by kernel_rfl) (λW hW=> ?_);simp only[VW,VP];replace hX:=hX.trans hW;replace Au:=Au.ext hW;replace Am:=hW.get Am;have Dc:w.heap.size<=b:=by have h1:=Ha;have h2:=Ab.size;omega
 have Ty:=hX.get hZ;have Vu:w.heap.size+1≠b:=by have h1:=Ha;have h2:=Z5 hZ;omega
 have Tz:=hX.get hY;have Vv:w.heap.size+1+1≠b:=by have h1:=Ha;have h2:=Z5 hY;omega
 have hTW:=hX.get hT;have Km:w.heap.size+1+1+1≠b:=by have h1:=Ha;have h2:=Z5 hT;omega
 have Bf:=Ab.trans hX;clear hA Ha Bw hW hX Ab hb q0 q1 q2 q3 q4 g0 g1 g2 g3 g4 hZ hY hT;have x0:=Z8 Am 0;have x1:=Z8 Am 1;have x2:=Z8 Am 2;have x3:=Z8 Am 3;have x4:=Z8 Am 4;have x5:=Z8 Am 5;have y0:=Z0 Am 0;have y1:=Z0 Am 1;have y2:=Z0 Am 2;have y3:=Z0 Am 3;have y4:=Z0 Am 4;have y5:=Z0 Am 5;simp only[YC,YA,YB] at y0 y1 y2 y3 y4 y5;have Ai:=Z0K Am (.int .i64 k0) (.int .i64 k1) (.int .i64 k2) (.int .i64 k3) (.slice b4 n4 c4) (.slice b5 n5 c5);obtain⟨hX,Dp⟩:=Ai;replace Au:=Au.stored Am Dp;replace Bf:=Dp.before Bf Dc;have Ly:=Dp.get Vu Ty;have Mz:=Dp.get Vv Tz;have U0:=Dp.get Km hTW;go_wp2_with fail;generalize ((((((W.setCell ⟨b,0,none⟩ (.int .i64 k0)).setCell ⟨b,1,none⟩ (.int .i64 k1)).setCell ⟨b,2,none⟩ (.int .i64 k2)).setCell ⟨b,3,none⟩ (.int .i64 k3)).setCell ⟨b,4,none⟩ (.slice b4 n4 c4)).setCell ⟨b,5,none⟩ (.slice b5 n5 c5))=X at hX Au Bf Dp Ly Mz U0⊢;clear Dp Am Dc x0 x1 x2 x3 x4 x5 y0 y1 y2 y3 y4 y5 Ty Tz hTW;refine Zfm ?_;have u:=Zc U0;have u0:=u.1;have u1:=u.2.1;have v0:=u.2.2.1;have v1:=u.2.2.2;clear u;go_wp2_with fail
 ·have A9:(firstV (Zy r0 r1 r2 r3 S [Zv at',Zv to',Z6v at' to']) !=0)=true:=by assumption
  have C3:¬Z1O r0 r1 r2 r3 S at' to'=0:=by simpa[Z1O] using A9
  have Ej:w.heap.size<=w.heap.size+1+1+1:=by omega
  have hh:=Zc (set_pair U0 (.int .i64 0) (.int .i64 0));have Tu:=hh.1;have Tv:=hh.2.1;refine VE (v:= .tuple #[.int .i64 0,.agg #[.int .i64 0,.int .i64 0],.int .i64 (Z1O r0 r1 r2 r3 S at' to')]) ((Z3R rfl _ _ _).trans ?_) rfl ⟨by rw[ZaT,XA C3],(Bf.setCell _ _ Ej).setCell _ _ Ej⟩;simp[go_sem,Tu,Tv];rfl
 ·have heq:(firstV (Zy r0 r1 r2 r3 S [Zv at',Zv to',Z6v at' to']) !=0)=false:=by assumption
  have C3:firstV (Zy r0 r1 r2 r3 S [Zv at',Zv to',Z6v at' to'])=0:=by simpa using heq
  obtain⟨G6,G5,Df,Ny⟩:=Z11 C3;obtain⟨_,h8,_⟩:=Z0i G6;have Cs:=Z0N (G5 (Zv at') (by simp));have N6:=Z0N (G5 (Zv to') (by simp));have Yp:=ZaI (G5 (Z6v at' to') (by simp));obtain⟨d,rfl⟩:=VL Cs.1;obtain⟨t,rfl⟩:=VL N6.1;have Eh:d<=90:=by omega
  have ht90:t<=90:=by omega
  have hdt:d<=t:=by omega
  obtain⟨B,p',e0,e1,e2,e3,e4,e5,e6,e7,e8,e9,hC⟩:=Au C3;subst k0 k1 k2 k3 b4 n4 c4 b5 n5 c5;have Ec:n<=8:=by omega
  have Bb:=λv w'=>Z08 r0 r1 r2 r3 base n cap v Ec w'
  have I9:=fun(d:Nat)(Eh:d<=90) w' hm' hC'=>Z2Y r0 r1 r2 r3 (.slice base n cap) B n d (2 ^ n - 1) p' (cvS r0 r1 r2 r3 (S.map Ze)) Ec Eh (Z2Z Ec) w' hm' hC'
  have HR:Hid (ZaT r0 r1 r2 r3 S d t=(((ZG (λd=>atF (cvS r0 r1 r2 r3 (S.map Ze)) (2 ^ n - 1) d n) d (t - d)).1:Int),(ZG (λd=>atF (cvS r0 r1 r2 r3 (S.map Ze)) (2 ^ n - 1) d n) d (t - d)).2)):=by
   show _=_;rw[ZaT,YZ (show Z1O r0 r1 r2 r3 S d t=0 from C3),A1];simp
  have Ee:Hid (Z1O r0 r1 r2 r3 S d t=0):=C3;have Fo:=Eb.ext Bf;clear Au G6 G5 Df Ny heq C3 Cs N6 Yp;generalize (2:Int) ^ n - 1=st at Bb I9 HR;obtain⟨F,hF⟩:∃F:Nat->Int×Int,F=λd=>atF (cvS r0 r1 r2 r3 (S.map Ze)) st d n:=⟨_,rfl⟩
  rw[<-hF] at HR;replace I9:∀d:Nat,d<=90->∀w',Most w'->Cv w' B n p' (cvS r0 r1 r2 r3 (S.map Ze))->Calls prog 69 #[.agg #[r0,r1,r2,r3,.slice base n cap,.slice (some ⟨B,0,none⟩) n n],st,d] w' λe w''=>e= .returned (.agg #[.int .i64 (F d).1,.int .i64 (F d).2])/\Ext w' w'':=by subst hF;exact I9
  clear hF;have hat:=I9 d Eh;obtain⟨⟨va,vb⟩,HF0⟩:∃v,F d=v:=⟨_,rfl⟩;rw[HF0] at hat;have HF:Hid (F d=(va,vb)):=HF0;clear HF0;obtain⟨bs,rfl⟩:∃bs,bs=b:=⟨_,rfl⟩;have hbT:bs≠w.heap.size+1+1+1:=Km.symm;have Pt:=Z0 Ly 0;simp only[YC,YA] at Pt;have gq1:=Zet Pt;clear Vu Vv Km u0 u1 v0 v1;have x0:=Z0 hX 0;have x1:=Z0 hX 1;have x2:=Z0 hX 2;have x3:=Z0 hX 3;have x4:=Z0 hX 4;have x5:=Z0 hX 5;simp only[YC,YA,YB] at x0 x1 x2 x3 x4 x5;have c0:=Zet x0;have c1:=Zet x1;have c2:=Zet x2;have c3:=Zet x3;have c4:=Zet x4;have c5:=Zet x5;refine ZeG 7 (by kernel_rfl) ?_;refine ZeB [0,1,2,4] (by kernel_rfl) (by kernel_rfl) ?_;simp only[ZeD,YB,YA,YK,YJ]
  repeat (go_big_quiet_step (fail))
  refine XU ?_;refine ZeX 3 (f:=70) (args:= #[.agg #[r0,r1,r2,r3,.slice base n cap,.slice (some ⟨B,0,none⟩) n n]]) (v:= .int .i64 st) (by kernel_rfl) rfl (by kernel_rfl) rfl (λW=>by simp[go_sem,execOp,Act.eval]) (λW _=>Bb _ W) ?_;go_simp;refine ZeX 5 (f:=69) (args:= #[.agg #[r0,r1,r2,r3,.slice base n cap,.slice (some ⟨B,0,none⟩) n n],st,d]) (v:= .agg #[va,vb]) (by kernel_rfl) rfl (by kernel_rfl) rfl (λW=>by simp[go_sem,execOp,Act.eval]) (λW hW=>hat W (Fo.ext hW) (hC.ext hW)) ?_;go_simp;refine ZeB [6] (by kernel_rfl) (by kernel_rfl) ?_;simp only[ZeD,YB,YA,YK,YJ]
  repeat (go_big_quiet_step (fail))
  refine XU ?_;refine Zfp 1 (by kernel_rfl) (λW hW=> ?_);simp only[VW,VP];have Vw:=hW.get U0;have U1:=hW.get Mz;have hXW:=hW.get hX;have C6:=Bf.trans hW;have Ej:w.heap.size<=w.heap.size+1+1+1:=by omega
  have Vx:=set_pair Vw (.int .i64 va) (.int .i64 vb);have Vy:=Zfl (i:=0) (j:=1) (u:= .int .i64 va) (v:= .int .i64 vb) (show w.heap.size+1+1≠w.heap.size+1+1+1 by omega) U1;have Vz:=Zfl (i:=0) (j:=1) (u:= .int .i64 va) (v:= .int .i64 vb) hbT hXW;have W0:=(hC.ext hW).setPair2 Vw va vb;have Bv:=(C6.setCell ⟨w.heap.size+1+1+1,0,none⟩ (.int .i64 va) Ej).setCell ⟨w.heap.size+1+1+1,1,none⟩ (.int .i64 vb) Ej;have hZ9:=Zfl (i:=0) (j:=1) (u:= .int .i64 va) (v:= .int .i64 vb) (show w.heap.size+1≠w.heap.size+1+1+1 by omega) (hW.get Ly);have g:=Zc Vw;have g0:=g.1;have g1:=g.2.1;have g2:=g.2.2.1;have g3:=g.2.2.2;clear g Mz Ly U0 hX Bf hW Ej C6 hXW U1 Vw x0 x1 x2 x3 x4 x5 c0 c1 c2 c3 c4 c5 Fo hC Pt gq1 hat;go_wp2_with fail;generalize (W.setCell ⟨w.heap.size+1+1+1,0,none⟩ (.int .i64 va)).setCell ⟨w.heap.size+1+1+1,1,none⟩ (.int .i64 vb)=Y9 at*;clear g0 g1 g2 g3;refine Zfm ?_;have Pt:=Z0 hZ9 0;simp only[YC,YA] at Pt;obtain rfl:va=(F d).1:=by rw[HF.out]
  obtain rfl:vb=(F d).2:=by rw[HF.out]
  clear HF;go_wp2_with fail;go_loopw [6,10] (λva vd wr=>∃k:Nat,k<=t - d/\va= .int .i64 ((ZG F d k).1:Int)/\vd= .int .i64 ((d+1+k:Nat):Int)/\Ext w wr/\Cv wr B n p' (cvS r0 r1 r2 r3 (S.map Ze))/\wr.heap[bs]? =some (.cells #[r0,r1,r2,r3,.slice base n cap,.slice (some ⟨B,0,none⟩) n n] 136)/\wr.heap[w.heap.size+1+1]? =some (.cells #[t] 3)/\wr.heap[w.heap.size+1+1+1]? =some (.cells #[.int .i64 (ZG F d k).2.1,.int .i64 (ZG F d k).2.2] 49)) (λ_ vd _=>t+1 - (intOf vd).toNat)
  case atStart=>exact⟨0,XS _,rfl,by push_cast;rfl,Bv,W0,Vz,Vy,Vx⟩
  case round=>
   obtain⟨q,hq,rfl,rfl,Br,Hc,Ks,W4,Lz⟩:=hrel;clear Bv W0 Vz Vy Vx;have HS:Hid (ZG F d (q+1)=if wrap64 ((ZG F d q).2.2 - (ZG F d q).2.1)<wrap64 ((F (d+1+q)).2 - (F (d+1+q)).1) then(d+1+q,F (d+1+q)) else ZG F d q):=rfl;obtain⟨⟨mi,pa,pb⟩,HW0⟩:∃v,ZG F d q=v:=⟨_,rfl⟩;rw[HW0] at HS Lz⊢;have HW:Hid (ZG F d q=(mi,pa,pb)):=HW0;clear HW0;have g:=Zc Lz;have g0:=g.1;have g1:=g.2.1;have g2:=g.2.2.1;have g3:=g.2.2.2;have hq2:=Z0 W4 0;simp only[YC,YA] at hq2;have gq0:=Zet g0;have gq1:=Zet g1;clear g;by_cases Ce:q=t - d
   ·subst Ce;have A3:¬((d+1+(t - d):Nat):Int)<=(t:Int):=(by omega);have E6:decide (((d+1+(t - d):Nat):Int)<=(t:Int))=false:=XV A3;clear HS I9 Bb;go_wp2_with fail;refine ZeG 3 (by kernel_rfl) ?_;refine ZeB [0,1,2] (by kernel_rfl) (by kernel_rfl) ?_;simp only[ZeD,YB,YA,YK,YJ]
    repeat (go_big_quiet_step (fail))
    refine XU ?_;refine Zfp 2 (by kernel_rfl) (λW hW=> ?_);simp only[VW,VP];replace Br:=Br.trans hW;replace Lz:=hW.get Lz;clear hW g0 g1 g2 g3 gq0 gq1 Ks;have g:=Zc Lz;have g0:=g.1;have g1:=g.2.1;have g2:=g.2.2.1;have g3:=g.2.2.2;go_wp2_with fail;refine Zfm ?_;go_wp2_with fail;have Vj:=Zc (set_pair Lz (.int .i64 pa) (.int .i64 pb));have Yq:=Vj.1;have Yr:=Vj.2.1;have Ej:w.heap.size<=w.heap.size+1+1+1:=(by omega);refine VE (v:= .tuple #[.int .i64 (ZaT r0 r1 r2 r3 S d t).1,.agg #[.int .i64 (ZaT r0 r1 r2 r3 S d t).2.1,.int .i64 (ZaT r0 r1 r2 r3 S d t).2.2],.int .i64 (Z1O r0 r1 r2 r3 S d t)]) ((Z3R rfl _ _ _).trans ?_) rfl ⟨rfl,(Br.setCell _ _ Ej).setCell _ _ Ej⟩;simp[go_sem,Yq,Yr];rw[HR.out,Ee.out,HW.out];simp
   ·have A3:((d+1+q:Nat):Int)<=(t:Int):=(by omega);have E6:decide (((d+1+q:Nat):Int)<=(t:Int))=true:=XX A3;obtain⟨e,he⟩:∃e:Nat,e=d+1+q:=⟨_,rfl⟩;rw[<-he] at A3 E6 HS⊢;have hea:e<=d+1+q:=(by omega);have heb:d+1+q<=e:=(by omega);clear he;have hat:=I9 e (by omega);obtain⟨⟨ea,eb⟩,HF⟩:∃v,F e=v:=⟨_,rfl⟩;rw[HF] at hat HS;clear HF;have x0:=Z0 Ks 0;have x1:=Z0 Ks 1;have x2:=Z0 Ks 2;have x3:=Z0 Ks 3;have x4:=Z0 Ks 4;have x5:=Z0 Ks 5;simp only[YC,YA,YB] at x0 x1 x2 x3 x4 x5;have c0:=Zet x0;have c1:=Zet x1;have c2:=Zet x2;have c3:=Zet x3;have c4:=Zet x4;have c5:=Zet x5;have Fo:=Eb.ext Br;clear g0 g1 g2 g3 gq0 gq1;go_wp2_with fail;refine Zfn 6 5 11 [0,1,2,3,4] (.cells #[.int .i64 0,.int .i64 0] 49) (by kernel_rfl) rfl (by kernel_rfl) rfl rfl (λa W=>by simp[go_sem,execOp,Act.eval]) ?_;refine Zfj [0,1,3] (by kernel_rfl) rfl rfl (by kernel_rfl) ?_;simp only[ZeD,YB,YA,YK,YJ]
    repeat (go_big_quiet_step (fail))
    refine XU ?_;refine Zfr 2 (f:=70) (args:= #[.agg #[r0,r1,r2,r3,.slice base n cap,.slice (some ⟨B,0,none⟩) n n]]) (v:= .int .i64 st) (by kernel_rfl) rfl rfl rfl (by kernel_rfl) rfl (λW=>by simp[go_sem,execOp,Act.eval]) (λW _=>Bb _ W) ?_;go_simp;refine Zfr 4 (f:=69) (args:= #[.agg #[r0,r1,r2,r3,.slice base n cap,.slice (some ⟨B,0,none⟩) n n],st,e]) (v:= .agg #[ea,eb]) (by kernel_rfl) rfl rfl rfl (by kernel_rfl) rfl (λW=>by simp[go_sem,execOp,Act.eval]) (λW hW=>hat W (Fo.ext hW) (Hc.ext hW)) ?_;go_simp;refine Zfq (by kernel_rfl) (λW hW b hA Bw Am=> ?_);obtain⟨bx,rfl⟩:∃bx,bx=b:=⟨_,rfl⟩;have Ak:=hW;clear hW;go_simp;refine Zfp 1 (by kernel_rfl) (λW hW=> ?_);simp only[VW,VP];replace Am:=hW.get Am;have Dc:wr.heap.size<=bx:=hA;have Hn:=set_pair Am (.int .i64 ea) (.int .i64 eb);have Gv:=Z5 Ks;have Hk:=Z5 W4;have Kl:=Z5 Lz;have B1:=Br.size;have Kr:=(((Br.trans Ak).trans hW).setCell ⟨bx,0,none⟩ (.int .i64 ea) (show w.heap.size<=bx by omega)).setCell ⟨bx,1,none⟩ (.int .i64 eb) (show w.heap.size<=bx by omega)
    have U2:=((Hc.ext Ak).ext hW).setPair2 Am ea eb;have U3:=Zfl (i:=0) (j:=1) (u:= .int .i64 ea) (v:= .int .i64 eb) (show bs≠bx by omega) (hW.get (Ak.get Ks));have U4:=Zfl (i:=0) (j:=1) (u:= .int .i64 ea) (v:= .int .i64 eb) (show w.heap.size+1+1≠bx by omega) (hW.get (Ak.get W4));have N7:=Zfl (i:=0) (j:=1) (u:= .int .i64 ea) (v:= .int .i64 eb) (show w.heap.size+1+1+1≠bx by omega) (hW.get (Ak.get Lz));have g:=Zc Am;have g0:=g.1;have g1:=g.2.1;have g2:=g.2.2.1;have g3:=g.2.2.2;clear g Br Hc Ks W4 Lz hW Ak Dc hA Bw Gv Hk Kl B1 x0 x1 x2 x3 x4 x5 c0 c1 c2 c3 c4 c5 hat Fo;go_wp2_with fail;generalize (W.setCell ⟨bx,0,none⟩ (.int .i64 ea)).setCell ⟨bx,1,none⟩ (.int .i64 eb)=Y at*;clear g0 g1 g2 g3 Am;refine Zfm ?_;have g:=Zc Hn;have g0:=g.1;have g1:=g.2.1;have g2:=g.2.2.1;have g3:=g.2.2.2;have k:=Zc N7;have k0:=k.1;have k1:=k.2.1;have k2:=k.2.2.1;have k3:=k.2.2.2;clear g k;have gq0:=Zet g0;have gq1:=Zet g1;go_wp2_with fail
    ·rename_i hgt0;have Mc:wrap64 (pb - pa)<wrap64 (eb - ea):=(by simpa using hgt0);clear hgt0;refine ZeG 3 (by kernel_rfl) ?_;refine ZeB [0,1,2] (by kernel_rfl) (by kernel_rfl) ?_;simp only[ZeD,YB,YA,YK,YJ]
     repeat (go_big_quiet_step (fail))
     refine XU ?_;refine Zfp 1 (by kernel_rfl) (λW hW=> ?_);simp only[VW,VP];replace Kr:=Kr.trans hW;replace U2:=U2.ext hW;replace U3:=hW.get U3;replace U4:=hW.get U4;replace N7:=hW.get N7;clear hW Hn g0 g1 g2 g3 gq0 gq1 k0 k1 k2 k3;have k:=Zc N7;have k0:=k.1;have k1:=k.2.1;have k2:=k.2.2.1;have k3:=k.2.2.2;clear k;have Vx:=set_pair N7 (.int .i64 ea) (.int .i64 eb);have Vz:=Zfl (i:=0) (j:=1) (u:= .int .i64 ea) (v:= .int .i64 eb) hbT U3;have Vy:=Zfl (i:=0) (j:=1) (u:= .int .i64 ea) (v:= .int .i64 eb) (show w.heap.size+1+1≠w.heap.size+1+1+1 by omega) U4;have W0:=U2.setPair2 N7 ea eb;have Ej:w.heap.size<=w.heap.size+1+1+1:=(by omega);have Bv:=(Kr.setCell ⟨w.heap.size+1+1+1,0,none⟩ (.int .i64 ea) Ej).setCell ⟨w.heap.size+1+1+1,1,none⟩ (.int .i64 eb) Ej;clear Kr U2 U3 U4 N7 Ej;go_wp2_with fail;generalize (W.setCell ⟨w.heap.size+1+1+1,0,none⟩ (.int .i64 ea)).setCell ⟨w.heap.size+1+1+1,1,none⟩ (.int .i64 eb)=Y2 at*;clear k0 k1 k2 k3;refine Zfm ?_;go_wp2_with fail;exact⟨⟨q+1,by omega,by rw[HS.out,YZ Mc],SG (Value.int .i64) (by push_cast;omega),Bv,W0,Vz,Vy,by rw[HS.out,YZ Mc];exact Vx⟩,by simp[intOf];omega⟩
    ·rename_i hgt0;have Mc:¬wrap64 (pb - pa)<wrap64 (eb - ea):=(by simpa using hgt0);clear hgt0;exact⟨⟨q+1,by omega,by rw[HS.out,XA Mc],SG (Value.int .i64) (by push_cast;omega),Kr,U2,U3,U4,by rw[HS.out,XA Mc];exact N7⟩,by simp[intOf];omega⟩
end Go.Proofs.Tryq
