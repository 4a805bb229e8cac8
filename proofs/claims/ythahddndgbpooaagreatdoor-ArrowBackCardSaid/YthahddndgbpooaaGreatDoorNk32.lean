import Derived.Test.YthahddndgbpooaaGreatDoorNkA
import Derived.Test.YthahddndgbpooaaGreatDoorNk31
import Derived.ArgAppend
import Derived.OwnWalkIn
import Derived.RangeFuncNested
import Derived.Stop.RegionWithIn
set_option linter.all false
set_option maxRecDepth 100000
set_option maxHeartbeats 4000000
open Go
variable {ops:Array Oper}{s:ByteArray}{assign body:Code}{R:Exit->Act->World->Prop}{a b c m x:Int}{l:List Nat}{b0 cp g n t:Nat}{P:Program}{p:Tmp}{u v:Value}{w w':World}
section
namespace Go.Nk
open Go Go.Region Go.Proofs.Tryq
theorem ZnR(k:Nat){o:Oper}{a:Act}{w:World}(hi:ops[k]? =some o)(hb:(decide (k<t)&&decide (l.length<ops.size)&&Region.ready .any ops (mark ops.size l)==[k])=true)
 (h:∀W,Ext w W->wpList P ops (Zfw (λ_ a' W'=>Ext W W'/\LX P ops R t (k::l) a' W')) [o] a W):LX P ops R t l a w:=by
 simp only[YG,XG,XW] at hb;unfold LX at*;rw[show ops.size - l.length=(ops.size - (k::l).length)+1 by simp only[YP];omega];refine λW hW=>⟨λh0=>(by rw[h0] at hb;cases hb.2),λi hi'=> ?_⟩
 rw[hb.2] at hi';obtain rfl:i=k:=by simpa using hi'
 refine⟨λ_=> ?_,λh=>by omega⟩;have h5:=h W hW;simp only[wpList] at h5;refine Zf8 (P:=P) (ops:=ops) (noN (R:=λ_ a' W'=>Ext W W'/\anyE P ops R t (ops.size - (i::l).length) ((mark ops.size l).setIfInBounds i true) a' W')) (λ_ _ h=>h) ?_;unfold wpOp;simp only[hi];exact h5
end Go.Nk
namespace Go.Proofs.Tryp
open Go Go.Nk Go.RowKit Go.Shelf Go.Proofs Go.Proofs.Tryq
attribute [local instance] k3
theorem Zou(h0:w.cell? ⟨g,0,none⟩=some u)(h1:w.cell? ⟨g,1,none⟩=some v)(j:Nat)(x:Value)(h:[u,v][j]? =some x):w.cell? ((⟨g,0,none⟩:Addr).add j)=some x:=by
 rw[Z0c]
 match j with
 |0=>cases h;exact h0
 |1=>cases h;exact h1
 |j+2=>simp at h
theorem ZoE{x:Rs}(ho:okR x):([32].intercalate ([115,104,111,116]::ZZ x)).length<=10000:=by
 have:=ZnA 1000 ([115,104,111,116]::ZZ x) (by
  intro z hz;simp only[ZZ,XE,XL,VO] at hz;rcases hz with rfl|rfl|rfl|rfl|rfl
  ·decide
  ·exact XD (UJ _ ho.a.s.1 ho.a.s.2) (by omega)
  ·exact XD (ZnK _ _ ho.m.s ho.M.s) (by omega)
  ·exact XD (UJ _ ho.wi.s.1 ho.wi.s.2) (by omega)
  ·exact XD (UJ _ ho.li.s.1 ho.li.s.2) (by omega))
 simp only[ZZ,YP,XM] at this;exact XD this (by omega)
theorem ZoZ(r0 r1 r2 r3:Int)(base:Option Addr)(n cap:Nat)(S:List Rs)(w:World)(A1:S.length=n)(hS:RawS w base S)(hp:Pow w)(h0:ZC r0 r1 r2 r3 S=0):
 Calls Tryp.prog 9 #[.agg (Zh r0 r1 r2 r3 base n cap)] w λe w'=>e= .returned (.tuple #[str (ZpM r0 r1 r2 r3 S),.int .i64 0])/\Ext w w':=by
 have B3:=λw hS=>Z0U r0 r1 r2 r3 base n cap S w A1 hS
 rw[h0] at B3;obtain⟨ha,hb,hc,hm,hS8,hL⟩:=Zob h0;have hn:n<=8:=by omega
 simp only[Zh] at B3⊢;have hE:Ext w (w.alloc (.cells #[r0,r1,r2,r3,.slice base n cap] 31)):=(Ext.rfl' w).alloc _;have hg:(w.alloc (.cells #[r0,r1,r2,r3,.slice base n cap] 31)).heap[w.heap.size]? =some (.cells #[r0,r1,r2,r3,.slice base n cap] 31):=by rw[Z3,YZ rfl]
 have Bi:=hS.ext hE;replace hS:Hid (RawS w base S):=hS;replace A1:Hid (S.length=n):=A1;replace hL:Hid (∀x∈S,okR x):=hL;have Dm:∀x∈[r0,r1,r2,r3],okS x:=by
  intro x hx;simp only[XE,XL,VO] at hx;rcases hx with rfl|rfl|rfl|rfl<;>exact okP.s (by assumption)
 replace Dm:Hid (∀x∈[r0,r1,r2,r3],okS x):=Dm;have Gz:([32].intercalate ([115,105,103,104,116]::[r0,r1,r2,r3].map Lib.itoa)).length<=10000:=by
  have:=ZnA 100 ([115,105,103,104,116]::[r0,r1,r2,r3].map Lib.itoa) (by
   intro x hx;simp only[VC,VQ,XE,XL,VO] at hx;rcases hx with rfl|rfl|rfl|rfl|rfl
   ·decide
   all_goals exact XD (UJ _ (okP.s (by assumption)).1 (okP.s (by assumption)).2) (by omega))
  simp only[VC,VQ,YP,XM] at this;exact XD this (by omega)
 replace Gz:Hid _:=Gz;clear ha hb hc hm h0 hS8;go_enter fq Tryz.func9,Tryz.ntmps9
 go_wp2_with (first
  |(go_at_call 43;refine(B3 _ Bi).mono ?_;rintro e w2 ⟨rfl,A4⟩
    have Ah:=hE.trans A4;have C7:=A4.get hg;have q0:=Z0 C7 0;have q1:=Z0 C7 1;have q2:=Z0 C7 2;have q3:=Z0 C7 3;have q4:=Z0 C7 4;simp only[YC,YA,YB] at q0 q1 q2 q3 q4)
  |(go_at_call 38;refine(ZnH w2.heap.size 0 4 4 [r0,r1,r2,r3] _ rfl (by omega) (Zo4 w2 [r0,r1,r2,r3] 3) (by simp) Dm.out ((hp.ext Ah).ext ((Ext.rfl' w2).alloc _))).mono ?_
    rintro e w3 ⟨v,rfl,hv,Ak⟩;obtain⟨g,cp,rfl,Ke,Iq⟩:=XP hv (by simp);have B4:Ext w2 w3:=((Ext.rfl' w2).alloc _).trans Ak;have Af:=ZoB [115,105,103,104,116] g 4 cp ([r0,r1,r2,r3].map Lib.itoa) w3 rfl (by omega) (Znr hv) Iq (by omega) (XD Gz.out (by omega));clear hv)
  |(go_at_call 37;refine Af.mono ?_;rintro e w4 ⟨rfl,Bg⟩
    have E5:=(Ah.trans B4).trans Bg;have Du:=(B4.trans Bg).get C7;replace q4:=(B4.trans Bg).cellS q4))
 clear Dm B3 Bi Af Ke Iq Ak;go_loopw [5,31] (λv5 v31 wr=>∃i:Nat,i<=n/\v31= .int .i64 i/\v5=str (ZY [115,105,103,104,116] (ZX r0 r1 r2 r3)++((S.take i).map λs=>ZY [115,104,111,116] (ZZ s)).flatten)/\Ext w wr) (λ_ v31 _=>n - (intOf v31).toNat)
 case atStart=>exact⟨0,by omega,rfl,by simp[ZY,ZX],E5⟩
 case round=>
  obtain⟨i,hi,rfl,rfl,Br⟩:=hrel;by_cases Ao:i=n
  ·subst Ao;go_wp2;go_ret2;rw[VT (by have:=A1.out;omega)];exact⟨rfl,Br⟩
  ·have A3:(i:Int)<(n:Int):=by omega
   obtain⟨x,hx⟩:∃x,S[i]? =some x:=⟨_,YH (by have:=A1.out;omega)⟩;obtain⟨b1,o1,rfl,_,sx⟩:=(hS.out.ext Br) i x hx;have x0:=sx.1;have x1:=sx.2;have x2:=sx.3;have x3:=sx.4;have x4:=sx.5;have ho:=hL.out x (YQ hx);clear sx;go_wp2;have hB:Ext wr _:=(Ext.rfl' wr).alloc (.cells #[x.a,x.m,x.M,x.wi,x.li] 75);have Gi:(wr.alloc (.cells #[x.a,x.m,x.M,x.wi,x.li] 75)).heap[wr.heap.size]? =some (.cells #[x.a,x.m,x.M,x.wi,x.li] 75):=by rw[Z3,YZ rfl]
   have Ia:Pow wr:=hp.ext Br;have Ku:=ZoE ho;have B1:¬9223372036854775807<(ZY [115,105,103,104,116] (ZX r0 r1 r2 r3)++((S.take i).map λs=>ZY [115,104,111,116] (ZZ s)).flatten).length+(ZY [115,104,111,116] (ZZ x)).length:=by
    have h1:=Gz.out
    have h3:=Zo5 10001 ((S.take i).map λs=>ZY [115,104,111,116] (ZZ s)) (by
     intro y hy;obtain⟨z,hz,rfl⟩:=VD.1 hy;have:=ZoE (hL.out z (List.mem_of_mem_take hz));simp only[ZY,XK,YP,XM];omega)
    rw[UI,UK] at h3;have h4:min i S.length<=8:=(by omega);have h5:=TS 10001 h4;have h6:(ZY [115,105,103,104,116] (ZX r0 r1 r2 r3)).length<=10001:=(by simp only[ZY,ZX,XK,YP,XM];omega);have h7:(ZY [115,104,111,116] (ZZ x)).length<=10001:=(by simp only[ZY,XK,YP,XM];omega);rw[XK];omega
   have hH:Hid (S.take (i+1)=S.take i++[x]):=by show _=_;rw[TG,hx];rfl
   have U5:=λW hW=>Zqf x.a ho.a.s W (Ia.ext hW)
   have Tx:=λW hW=>Zoh x.m x.M ho.m.s ho.M.s W (Ia.ext hW)
   have U7:∀y∈[x.wi,x.li],okS y:=by
    intro y hy;simp only[XE,XL,VO] at hy;rcases hy with rfl|rfl
    ·exact ho.wi.s
    ·exact ho.li.s
   have Dm:Hid _:=U7;have Af:∀g cp W,(∀(j:Nat)(y:Value),((ZZ x).map str)[j]? =some y->W.cell? ⟨g,j,none⟩=some y)->g<W.heap.size->Calls Tryp.prog 37 #[str [115,104,111,116],.slice (some ⟨g,0,none⟩) 4 cp] W λe w'=>e= .returned (str (ZY [115,104,111,116] (ZZ x)))/\Ext W w':=λg cp W h1 h2=>ZoB [115,104,111,116] g 4 cp (ZZ x) W rfl (by omega) h1 h2 (by omega) (XD Ku (by omega))
   obtain⟨acc,Hg⟩:∃acc,Hid (acc=ZY [115,105,103,104,116] (ZX r0 r1 r2 r3)++((S.take i).map λs=>ZY [115,104,111,116] (ZZ s)).flatten):=⟨_,rfl⟩;obtain⟨sx,Gt⟩:∃sx,Hid (sx=ZY [115,104,111,116] (ZZ x)):=⟨_,rfl⟩;rw[<-Hg.out] at B1⊢;rw[<-Gt.out] at B1 Af;simp only[ZZ,VC,VQ] at Af;generalize World.alloc wr (.cells #[x.a,x.m,x.M,x.wi,x.li] 75)=w7 at hB Gi⊢;obtain⟨B7,U6⟩:∃B7,B7=wr.heap.size:=⟨_,rfl⟩;rw[<-U6] at Gi⊢;clear U6;have y0:=Z0 Gi 0;have y1:=Z0 Gi 1;have y2:=Z0 Gi 2;have y3:=Z0 Gi 3;have y4:=Z0 Gi 4;simp only[YC,YA,YB] at y0 y1 y2 y3 y4;have gy0:=Zet y0;have gy1:=Zet y1;have gy2:=Zet y2;have gy3:=Zet y3;have gy4:=Zet y4;clear hx x0 x1 x2 x3 x4 q0 q1 q2 q3 q4 Du C7 hg hE A4 Ah B4 Bg E5 Ku U7 ho;generalize hta:Lib.itoa x.a=ta at U5 Af;generalize W7:ZW x.m x.M=tm at Tx Af;obtain⟨tc,Qq⟩:∃tc,tc=Lib.itoa x.wi:=⟨_,rfl⟩;obtain⟨td,Hi⟩:∃td,td=Lib.itoa x.li:=⟨_,rfl⟩;rw[<-Qq,<-Hi] at Af;replace hta:Hid _:=hta;replace W7:Hid _:=W7;replace Qq:Hid _:=Qq;replace Hi:Hid _:=Hi;refine ZeG 18 (by kernel_rfl) ?_;refine ZeB [0,1,2,4,5,8,9,10,11] (by kernel_rfl) (by kernel_rfl) ?_
   simp only[ZeD,YB,YA,YK,YJ]
   repeat (go_big_quiet_step (fail))
   refine XU ?_;refine ZeX 3 (f:=44) (args:= #[x.a]) (v:=str ta) (by kernel_rfl) rfl (by kernel_rfl) rfl (λW=>by simp[go_sem,execOp,Act.eval]) (λW hW=>U5 W (hB.trans hW)) ?_;go_simp;refine ZeX 6 (f:=39) (args:= #[.agg #[x.m,x.M]]) (v:=str tm) (by kernel_rfl) rfl (by kernel_rfl) rfl (λW=>by simp[go_sem,execOp,Act.eval]) (λW hW=>Tx W (hB.trans hW)) ?_;go_simp;refine Zit 7 12 rfl rfl (by kernel_rfl) rfl rfl (λW hW=> ?_) (λW hW=> ?_)
   ·refine Zf3 ⟨.slice (some ⟨W.heap.size,0,none⟩) 2 2,W.alloc (.cells #[str ta,str tm] 9),by simp[go_sem,execOp,Act.eval],(Ext.rfl' W).alloc _,?_⟩;have Dz:=Z6s W wr.heap.size 9 #[str ta,str tm] 2 _ rfl (hB.trans hW).size rfl (by decide);replace hB:=(hB.trans hW).alloc (.cells #[str ta,str tm] 9);generalize W.alloc (.cells #[str ta,str tm] 9)=W5 at Dz hB⊢;generalize W.heap.size=B42 at Dz⊢;clear hW;go_simp;refine Zfa 12 rfl (by kernel_rfl) rfl (λW hW=>Zf3 ⟨.slice (some ⟨W.heap.size,0,none⟩) 2 2,W.alloc (.cells #[x.wi,x.li] 3),by simp[go_sem,execOp,Act.eval],(Ext.rfl' W).alloc _,?_⟩);have F8:=Zo4 W [x.wi,x.li] 3;have b47:W.heap.size<(W.alloc (.cells #[x.wi,x.li] 3)).heap.size:=(by simp);replace Dz:=Z00 (Z00 Dz hW) ((Ext.rfl' W).alloc (.cells #[x.wi,x.li] 3));replace hB:=(hB.trans hW).alloc (.cells #[x.wi,x.li] 3);simp only[VC,VQ] at F8;generalize W.alloc (.cells #[x.wi,x.li] 3)=W6 at F8 b47 hB Dz⊢;generalize W.heap.size=B47 at F8 b47⊢;clear hW;go_simp;refine Zfa 13 rfl (by kernel_rfl) rfl (λW hW=>Zfo (f:=38) (args:= #[.slice (some ⟨B47,0,none⟩) 2 2]) (by simp[go_sem,execOp,Act.eval]) ?_)
    refine(ZnH B47 0 2 2 [x.wi,x.li] W rfl (by omega) (λj y hj=>hW.cellS (F8 j y hj)) (hW.lt b47) Dm.out (Ia.ext (hB.trans hW))).mono ?_;rintro e W2 ⟨v,rfl,hv,hF⟩;obtain⟨g,cp,rfl,Fm,C7⟩:=XP hv (by simp);have k0:=Znr hv 0 (str tc) (by rw[Qq.out];rfl);have k1:=Znr hv 1 (str td) (by rw[Hi.out];rfl);refine⟨.slice (some ⟨g,0,none⟩) 2 cp,rfl,hF,?_⟩;replace Dz:=Z00 (Z00 Dz hW) hF;replace hB:=(hB.trans hW).trans hF;clear hW hF hv F8 b47;go_simp;refine ZnR 14 rfl (by kernel_rfl) (λW hW=> ?_);have e0:=hW.cellS (Znr (show ZpH _ _ _ [ta,tm] from Dz) 0 (str ta) rfl);have e1:=hW.cellS (Znr (show ZpH _ _ _ [ta,tm] from Dz) 1 (str tm) rfl);refine TY W rfl _ _ 85 rfl 9 Tryz.t9 (.string ⟨#[]⟩) 1 16 u85 i9 t9z t9s t9b rfl (by omega) (some ⟨B42,0,none⟩) 2 2 [str ta,str tm] rfl (λh=>by cases h) rfl (λb hb=>by cases hb;exact Zou e0 e1) ⟨g,0,none⟩ 2 cp [str tc,str td] rfl rfl (Zou (hW.cellS k0) (hW.cellS k1)) (by intro u hu;simp at hu;rcases hu with rfl|rfl<;>rfl) (by omega) (by simp[maxLen]) (by omega) ?_;intro v' w3 Aa A5;obtain⟨g9,cp9,rfl,U8,N9⟩:=XP Aa (by omega);have Jz:Ext W w3:=⟨A5.size,λk hk=>A5.block k hk (by simp),A5.tape,A5.os,A5.output⟩
    have Et:=λV (hV:Ext w3 V)=>Af g9 cp9 V (λj y hj=>hV.cellS (Znr (show ZpH W.heap.size w3 _ [ta,tm,tc,td] from Aa) j y hj)) (hV.lt N9)
    refine⟨Jz,?_⟩;replace hB:=(hB.trans hW).trans Jz;clear Aa A5 Jz e0 e1 hW Dz k0 k1 U8 N9;go_simp;refine Zfa 15 rfl (by kernel_rfl) rfl (λW hW=>Zfo (f:=37) (args:= #[str [115,104,111,116],.slice (some ⟨g9,0,none⟩) 4 cp9]) (by simp[go_sem,execOp,Act.eval]) ?_);refine(Et W hW).mono ?_;rintro e W9 ⟨rfl,hF⟩;refine⟨str sx,rfl,hF,?_⟩;replace hB:=(hB.trans hW).trans hF;clear hW hF;go_simp;refine ZeB [16,17] (by kernel_rfl) (by kernel_rfl) ?_;simp only[ZeD,YB,YA,YK,YJ]
    repeat (go_big_quiet_step (fail))
    refine XU ?_;refine Zf6 (by kernel_rfl) (λW hW=> ?_);go_wp2;go_roundw
    case rel=>exact⟨i+1,by omega,by push_cast;rfl,by rw[UZ,Hg.out,Gt.out,hH.out];simp,Br.trans (hB.trans hW)⟩
    case measure=>simp[intOf];omega
   ·refine Zf3 ⟨.slice (some ⟨W.heap.size,0,none⟩) 2 2,W.alloc (.cells #[x.wi,x.li] 3),by simp[go_sem,execOp,Act.eval],(Ext.rfl' W).alloc _,?_⟩;have F8:=Zo4 W [x.wi,x.li] 3;have b47:W.heap.size<(W.alloc (.cells #[x.wi,x.li] 3)).heap.size:=(by simp);replace hB:=(hB.trans hW).alloc (.cells #[x.wi,x.li] 3);simp only[VC,VQ] at F8;generalize W.alloc (.cells #[x.wi,x.li] 3)=W6 at F8 b47 hB⊢;generalize W.heap.size=B47 at F8 b47⊢;clear hW;go_simp;refine Zit 7 13 rfl rfl (by kernel_rfl) rfl rfl (λW hW=> ?_) (λW hW=> ?_)
    ·refine Zf3 ⟨.slice (some ⟨W.heap.size,0,none⟩) 2 2,W.alloc (.cells #[str ta,str tm] 9),by simp[go_sem,execOp,Act.eval],(Ext.rfl' W).alloc _,?_⟩;have Dz:=Z6s W wr.heap.size 9 #[str ta,str tm] 2 _ rfl (hB.trans hW).size rfl (by decide);replace F8:∀(j:Nat)(y:Int),[x.wi,x.li][j]? =some y->(W.alloc (.cells #[str ta,str tm] 9)).cell? ⟨B47,0+j,none⟩=some (.int .i64 y):=λj y hj=>(hW.alloc _).cellS (F8 j y hj)
     replace b47:=(hW.alloc (.cells #[str ta,str tm] 9)).lt b47;replace hB:=(hB.trans hW).alloc (.cells #[str ta,str tm] 9);generalize W.alloc (.cells #[str ta,str tm] 9)=W5 at Dz hB F8 b47⊢;generalize W.heap.size=B42 at Dz⊢;clear hW;go_simp;refine Zfa 13 rfl (by kernel_rfl) rfl (λW hW=>Zfo (f:=38) (args:= #[.slice (some ⟨B47,0,none⟩) 2 2]) (by simp[go_sem,execOp,Act.eval]) ?_);refine(ZnH B47 0 2 2 [x.wi,x.li] W rfl (by omega) (λj y hj=>hW.cellS (F8 j y hj)) (hW.lt b47) Dm.out (Ia.ext (hB.trans hW))).mono ?_;rintro e W2 ⟨v,rfl,hv,hF⟩;obtain⟨g,cp,rfl,Fm,C7⟩:=XP hv (by simp);have k0:=Znr hv 0 (str tc) (by rw[Qq.out];rfl);have k1:=Znr hv 1 (str td) (by rw[Hi.out];rfl);refine⟨.slice (some ⟨g,0,none⟩) 2 cp,rfl,hF,?_⟩;replace Dz:=Z00 (Z00 Dz hW) hF;replace hB:=(hB.trans hW).trans hF;clear hW hF hv F8 b47;go_simp;refine ZnR 14 rfl (by kernel_rfl) (λW hW=> ?_);have e0:=hW.cellS (Znr (show ZpH _ _ _ [ta,tm] from Dz) 0 (str ta) rfl);have e1:=hW.cellS (Znr (show ZpH _ _ _ [ta,tm] from Dz) 1 (str tm) rfl);refine TY W rfl _ _ 85 rfl 9 Tryz.t9 (.string ⟨#[]⟩) 1 16 u85 i9 t9z t9s t9b rfl (by omega) (some ⟨B42,0,none⟩) 2 2 [str ta,str tm] rfl (λh=>by cases h) rfl (λb hb=>by cases hb;exact Zou e0 e1) ⟨g,0,none⟩ 2 cp [str tc,str td] rfl rfl (Zou (hW.cellS k0) (hW.cellS k1)) (by intro u hu;simp at hu;rcases hu with rfl|rfl<;>rfl) (by omega) (by simp[maxLen]) (by omega) ?_
     intro v' w3 Aa A5;obtain⟨g9,cp9,rfl,U8,N9⟩:=XP Aa (by omega);have Jz:Ext W w3:=⟨A5.size,λk hk=>A5.block k hk (by simp),A5.tape,A5.os,A5.output⟩;have Et:=λV (hV:Ext w3 V)=>Af g9 cp9 V (λj y hj=>hV.cellS (Znr (show ZpH W.heap.size w3 _ [ta,tm,tc,td] from Aa) j y hj)) (hV.lt N9)
     refine⟨Jz,?_⟩;replace hB:=(hB.trans hW).trans Jz;clear Aa A5 Jz e0 e1 hW Dz k0 k1 U8 N9;go_simp;refine Zfa 15 rfl (by kernel_rfl) rfl (λW hW=>Zfo (f:=37) (args:= #[str [115,104,111,116],.slice (some ⟨g9,0,none⟩) 4 cp9]) (by simp[go_sem,execOp,Act.eval]) ?_);refine(Et W hW).mono ?_;rintro e W9 ⟨rfl,hF⟩;refine⟨str sx,rfl,hF,?_⟩;replace hB:=(hB.trans hW).trans hF;clear hW hF;go_simp;refine ZeB [16,17] (by kernel_rfl) (by kernel_rfl) ?_;simp only[ZeD,YB,YA,YK,YJ]
     repeat (go_big_quiet_step (fail))
     refine XU ?_;refine Zf6 (by kernel_rfl) (λW hW=> ?_);go_wp2;go_roundw
     case rel=>exact⟨i+1,by omega,by push_cast;rfl,by rw[UZ,Hg.out,Gt.out,hH.out];simp,Br.trans (hB.trans hW)⟩
     case measure=>simp[intOf];omega
    ·refine Zfo (f:=38) (args:= #[.slice (some ⟨B47,0,none⟩) 2 2]) (by simp[go_sem,execOp,Act.eval]) ?_;refine(ZnH B47 0 2 2 [x.wi,x.li] W rfl (by omega) (λj y hj=>hW.cellS (F8 j y hj)) (hW.lt b47) Dm.out (Ia.ext (hB.trans hW))).mono ?_;rintro e W2 ⟨v,rfl,hv,hF⟩;obtain⟨g,cp,rfl,Fm,C7⟩:=XP hv (by simp);have k0:=Znr hv 0 (str tc) (by rw[Qq.out];rfl);have k1:=Znr hv 1 (str td) (by rw[Hi.out];rfl);refine⟨.slice (some ⟨g,0,none⟩) 2 cp,rfl,hF,?_⟩;replace hB:=(hB.trans hW).trans hF;clear hW hF hv F8 b47;go_simp;refine Zfa 7 rfl (by kernel_rfl) rfl (λW hW=>Zf3 ⟨.slice (some ⟨W.heap.size,0,none⟩) 2 2,W.alloc (.cells #[str ta,str tm] 9),by simp[go_sem,execOp,Act.eval],(Ext.rfl' W).alloc _,?_⟩);have Dz:=Z6s W wr.heap.size 9 #[str ta,str tm] 2 _ rfl (hB.trans hW).size rfl (by decide);replace k0:=(hW.alloc (.cells #[str ta,str tm] 9)).cellS k0;replace k1:=(hW.alloc (.cells #[str ta,str tm] 9)).cellS k1;replace hB:=(hB.trans hW).alloc (.cells #[str ta,str tm] 9);generalize W.alloc (.cells #[str ta,str tm] 9)=W5 at Dz hB k0 k1⊢;generalize W.heap.size=B42 at Dz⊢;clear hW;go_simp;refine ZnR 14 rfl (by kernel_rfl) (λW hW=> ?_);have e0:=hW.cellS (Znr (show ZpH _ _ _ [ta,tm] from Dz) 0 (str ta) rfl);have e1:=hW.cellS (Znr (show ZpH _ _ _ [ta,tm] from Dz) 1 (str tm) rfl)
     refine TY W rfl _ _ 85 rfl 9 Tryz.t9 (.string ⟨#[]⟩) 1 16 u85 i9 t9z t9s t9b rfl (by omega) (some ⟨B42,0,none⟩) 2 2 [str ta,str tm] rfl (λh=>by cases h) rfl (λb hb=>by cases hb;exact Zou e0 e1) ⟨g,0,none⟩ 2 cp [str tc,str td] rfl rfl (Zou (hW.cellS k0) (hW.cellS k1)) (by intro u hu;simp at hu;rcases hu with rfl|rfl<;>rfl) (by omega) (by simp[maxLen]) (by omega) ?_;intro v' w3 Aa A5;obtain⟨g9,cp9,rfl,U8,N9⟩:=XP Aa (by omega);have Jz:Ext W w3:=⟨A5.size,λk hk=>A5.block k hk (by simp),A5.tape,A5.os,A5.output⟩;have Et:=λV (hV:Ext w3 V)=>Af g9 cp9 V (λj y hj=>hV.cellS (Znr (show ZpH W.heap.size w3 _ [ta,tm,tc,td] from Aa) j y hj)) (hV.lt N9)
     refine⟨Jz,?_⟩;replace hB:=(hB.trans hW).trans Jz;clear Aa A5 Jz e0 e1 hW Dz k0 k1 U8 N9;go_simp;refine Zfa 15 rfl (by kernel_rfl) rfl (λW hW=>Zfo (f:=37) (args:= #[str [115,104,111,116],.slice (some ⟨g9,0,none⟩) 4 cp9]) (by simp[go_sem,execOp,Act.eval]) ?_);refine(Et W hW).mono ?_;rintro e W9 ⟨rfl,hF⟩;refine⟨str sx,rfl,hF,?_⟩;replace hB:=(hB.trans hW).trans hF;clear hW hF;go_simp;refine ZeB [16,17] (by kernel_rfl) (by kernel_rfl) ?_;simp only[ZeD,YB,YA,YK,YJ]
     repeat (go_big_quiet_step (fail))
     refine XU ?_;refine Zf6 (by kernel_rfl) (λW hW=> ?_);go_wp2;go_roundw
     case rel=>exact⟨i+1,by omega,by push_cast;rfl,by rw[UZ,Hg.out,Gt.out,hH.out];simp,Br.trans (hB.trans hW)⟩
     case measure=>simp[intOf];omega
end Go.Proofs.Tryp
end
namespace Go.Proofs.Tryp
open Go Go.Nk Go.RowKit Go.Shelf Go.Proofs Go.Proofs.Tryq
attribute [local instance] k3
@[go_sem] theorem eq28 (a b c d:Int) (w:World):(Op.equalIn 10000 28 (.agg #[a,b,c,d]) (.agg #[a,b,c,d])).run Tryp.prog w= .ok true w:=by
  have u3:Tryp.prog.underlying 3=some (.int .i64):=(underlying_eq 3).trans Tryz.underlying3;have a3:=Tryz.isAgg3;have z3:=Tryz.sizeOf3;have hS:Tryp.prog.underlying 28=some (.struct (Tryp.prog.fieldsOf 28)):=by kernel_rfl
  have hp:Tryp.prog.stoodInHeld 28=false:=by kernel_rfl
  rw[show(10000:Nat)=9999+1 from rfl,SL w 9999 28 _ _ hS hp];simp only[Program.fieldsOf,underlying_eq,Tryz.underlying28];go_simp
@[go_sem] theorem guard28 (op:BinOp) (p q:Operand) (xs ys:Array Value) (w:World):(eqGuard op 28 p q (.agg xs) (.agg ys)).run Tryp.prog w= .ok () w:=RF w op 28 p q xs ys (by kernel_rfl)
@[go_sem] theorem eq75 (a b c d e:Int) (w:World):(Op.equalIn 10000 75 (.agg #[a,b,c,d,e]) (.agg #[a,b,c,d,e])).run Tryp.prog w= .ok true w:=by
  have u3:Tryp.prog.underlying 3=some (.int .i64):=(underlying_eq 3).trans Tryz.underlying3;have a3:=Tryz.isAgg3;have z3:=Tryz.sizeOf3;have a48:=Tryz.isAgg49;have z48:=Tryz.sizeOf49;have hS:Tryp.prog.underlying 75=some (.struct (Tryp.prog.fieldsOf 75)):=by kernel_rfl
  have hp:Tryp.prog.stoodInHeld 75=false:=by kernel_rfl
  have h48:=λa b=>Zrf 9997 a b a b w
  rw[show(10000:Nat)=9999+1 from rfl,SL w 9999 75 _ _ hS hp];simp only[Program.fieldsOf,underlying_eq,Tryz.underlying75];go_simp
@[go_sem] theorem guard75 (op:BinOp) (p q:Operand) (xs ys:Array Value) (w:World):(eqGuard op 75 p q (.agg xs) (.agg ys)).run Tryp.prog w= .ok () w:=RF w op 75 p q xs ys (by kernel_rfl)
theorem ZoF(a b c m:Int)(ao1 ao2:Option Addr)(n c1 c2:Nat)(L:List Rs)(w:World)(hn:L.length=n)(hb:n<=1000)(h1:RawS w ao1 L)(h2:RawS w ao2 L):
 Calls Tryp.prog 16 #[.agg #[a,b,c,m,.slice ao1 n c1],.agg #[a,b,c,m,.slice ao2 n c2]] w λe w'=>e= .returned (.bool true)/\Ext w w':=by
 have Be:=((Ext.rfl' w).alloc (.cells #[a,b,c,m,.slice ao1 n c1] 31)).alloc (.cells #[a,b,c,m,.slice ao2 n c2] 31);have Bj:((w.alloc (.cells #[a,b,c,m,.slice ao1 n c1] 31)).alloc (.cells #[a,b,c,m,.slice ao2 n c2] 31)).heap[w.heap.size]? =some (.cells #[a,b,c,m,.slice ao1 n c1] 31):=by simp only[Z3,Z2];rw[XA (by omega),YZ trivial]
 have Bh:((w.alloc (.cells #[a,b,c,m,.slice ao1 n c1] 31)).alloc (.cells #[a,b,c,m,.slice ao2 n c2] 31)).heap[w.heap.size+1]? =some (.cells #[a,b,c,m,.slice ao2 n c2] 31):=by simp only[Z3,Z2];rw[YZ trivial]
 replace hn:Hid (L.length=n):=hn;replace h1:Hid (RawS w ao1 L):=h1;replace h2:Hid (RawS w ao2 L):=h2;go_enter fq Tryz.func16,Tryz.ntmps16;go_wp2;generalize World.alloc _ (.cells #[a,b,c,m,.slice ao2 n c2] 31)=w1 at Be Bj Bh⊢;go_loopw [5] (λv5 wr=>∃i:Nat,i<=n/\v5= .int .i64 i/\Ext w wr/\wr.heap[w.heap.size]? =some (.cells #[a,b,c,m,.slice ao1 n c1] 31)/\wr.heap[w.heap.size+1]? =some (.cells #[a,b,c,m,.slice ao2 n c2] 31)) (λv5 _=>n - (intOf v5).toNat)
 case atStart=>exact⟨0,by omega,rfl,Be,Bj,Bh⟩
 case round=>
  clear Be Bj Bh;obtain⟨i,hi,rfl,hE,Bj,Bh⟩:=hrel;obtain⟨p0,p1,p2,p3,p4⟩:=Zgj Bj;obtain⟨q0,q1,q2,q3,q4⟩:=Zgj Bh;by_cases Ao:i=n
  ·subst Ao;go_wp2;go_ret;exact⟨rfl,hE⟩
  ·have A3:(i:Int)<(n:Int):=by omega
   obtain⟨x,hx⟩:∃x,L[i]? =some x:=⟨_,YH (by have:=hn.out;omega)⟩;obtain⟨b1,o1,rfl,_,sx⟩:=(h1.out.ext hE) i x hx;obtain⟨b2,o2,rfl,_,sy⟩:=(h2.out.ext hE) i x hx;have x0:=sx.1;have x1:=sx.2;have x2:=sx.3;have x3:=sx.4;have x4:=sx.5;have y0:=sy.1;have y1:=sy.2;have y2:=sy.3;have y3:=sy.4;have y4:=sy.5;clear hx sx sy;have gp:=Zet p4;have gq:=Zet q4;have gx0:=Zet x0;have gx1:=Zet x1;have gx2:=Zet x2;have gx3:=Zet x3;have gx4:=Zet x4;have gy0:=Zet y0;have gy1:=Zet y1;have gy2:=Zet y2;have gy3:=Zet y3;have gy4:=Zet y4;go_wp2_with fail;refine ZeG 11 (by kernel_rfl) ?_;refine ZeB [0,1,2,3,4,5,6,7,8,9,10] (by kernel_rfl) (by kernel_rfl) ?_;simp only[ZeD,YB,YA,YK,YJ]
   repeat (go_big_quiet_step (fail))
   refine XU ?_;refine Zf6 (by kernel_rfl) (λW hW=> ?_);have A4:=hE.trans hW;replace Bj:=hW.get Bj;replace Bh:=hW.get Bh;clear p0 p1 p2 p3 p4 q0 q1 q2 q3 q4 gp gq gx0 gx1 gx2 gx3 gx4 gy0 gy1 gy2 gy3 gy4 x0 x1 x2 x3 x4 y0 y1 y2 y3 y4 hW hE;go_wp2;exact⟨⟨i+1,by omega,by push_cast;rfl,A4,Bj,Bh⟩,by simp[intOf];omega⟩
theorem Z3I(h:Ext w w'):w.grownBy w' none:=⟨h.os,h.tape,h.output,h.size,λk hk _=>h.old k hk⟩
def Lft(ss B:Nat)(I:Nat->World->Prop):Prop:=∀i W W' row,I i W->W.grownBy W' row->(∀r,row=some r->r=ss\/(B<=r/\∃o:Obj,W.heap[r]? =some o/\o.isCells=false))->I i W'
def Pcs(T:List (List UInt8)):Prop:=∀(i:Nat)(x:List UInt8),T[i]? =some x->∃B,pcOk (T.drop (i+1)).flatten x B
theorem Zpk{g:Operand}{Q:Exit->Act->World->Prop}{a:Act}(ss:Nat)(T:List (List UInt8))(hss:ss<w.heap.size)
 (Ys:∀(yl:Nat)(J:Nat->World->Prop)(W:World),(∀i W1 W2 row,J i W1->W1.grownBy W2 row->(∀r,row=some r->r=ss)->J i W2)->
   (∀i x W1,J i W1->T[i]? =some x->YieldAt Fence.wide (n+1) Tryp.prog yl #[str x] W1 λe W2=>e= .returned (.bool true)/\J (i+1) W2/\W2.heap[ss]? =W1.heap[ss]?)->
   J 0 W->W.heap[ss]? =some (.cells #[str T.flatten] 9)->
   CallsIn Fence.wide (n+2) Tryp.prog 124 #[.func (.yield yl) #[] #[],.pointer (some ⟨ss,0,none⟩)] W λe W'=>(∃v,e= .returned v)/\J T.length W')
 (hg:a.eval g= .func (.func 124) #[] #[.pointer (some ⟨ss,0,none⟩)])(hs:w.heap[ss]? =some (.cells #[str T.flatten] 9))
 (I:Nat->World->Prop)(hI:Lft ss w.heap.size I)(h0:I 0 w)(a₁:List UInt8->Act)
 (M0:∀(l:Nat)(x:List UInt8)(W:World)(K:Act->World->Prop),K (a₁ x) W->assign.wpIn (Fence.wide.inRound l) (n+1) Tryp.prog (Exit.then K (λ_ _ _=>False)) {tmps:=((#[p]:Array Tmp).zip #[str x]).foldl (λt (p,v)=>t.setIfInBounds p v) a.tmps,defers:=[]} W)
 (U9:∀(l i:Nat)(x:List UInt8)(W:World),T[i]? =some x->I i W->body.wpIn (Fence.wide.inRound l) (n+1) Tryp.prog (λe _ W'=>e= .normal/\KeepsFrom w.heap.size W W'/\W'.heap[ss]? =W.heap[ss]? /\I (i+1) W') (a₁ x) W)
 (Ua:∀(D:Nat)(W:World),w.heap.size<=D->I T.length W->W.heap[D]? =some (.deferred (some []))->Q .normal {a with defers:={target:= .collected D,args:= #[]}::a.defers} W):
 (Code.rangeFunc g #[p] assign body).wpIn Fence.wide (n+3) Tryp.prog Q a w:=by
 refine wpIn_rangeFunc ?_;intro fn hfn;obtain⟨rec,Cu⟩:∃rec:LoopState->Loop,rec=λst=>{state:=st,pending:=none,fn,tmps:=a.tmps,params:= #[p],assign,body,defers:=w.heap.size}:=⟨_,rfl⟩
 obtain⟨W1,Wa⟩:∃W1,(w.alloc (.deferred (some []))).alloc (.loop (rec .ready))=W1:=⟨_,rfl⟩;have Ab:Ext w W1:=by rw[<-Wa];exact((Ext.rfl' w).alloc _).alloc _
 have C8:W1.heap[w.heap.size+1]? =some (.loop (rec .ready)):=by rw[<-Wa,Z3,YZ (by simp)]
 have hK1:W1.heap[w.heap.size]? =some (.deferred (some [])):=by rw[<-Wa,Z3,XA (by simp),Z3,YZ rfl]
 have C5:I 0 W1:=hI 0 w W1 none h0 (Z3I Ab) (λr h=>by cases h)
 refine⟨w.heap.size+1,[{target:= .collected w.heap.size,args:= #[]}],W1,{target:= .fn (.func 124) #[.pointer (some ⟨ss,0,none⟩)],args:= #[.func (.yield (w.heap.size+1)) #[] #[]]},W1,124,
  #[.func (.yield (w.heap.size+1)) #[] #[]]++ #[.pointer (some ⟨ss,0,none⟩)],W1,?_,?_,?_,?_,λ_=>by omega,?_⟩
 ·rw[<-Wa,Cu];exact run_enterLoop_outer _ _ _ _ _
 ·simp only[resolve,hg];simp[go_sem]
 ·intro f' _;trivial
 ·simp[invoke,go_sem]
 refine(Ys (w.heap.size+1) (λi W=>I i W/\W.heap[w.heap.size+1]? =some (.loop (rec .ready))/\W.heap[w.heap.size]? =some (.deferred (some []))) W1 ?_ ?_ ⟨C5,C8,hK1⟩ (Ab.get hs)).mono ?_
 ·rintro i X Y row ⟨h1,h2,h3⟩ Dy hr;have keep:∀k o,X.heap[k]? =some o->k≠ss->Y.heap[k]? =some o:=λk o hk A9=>(Dy.block k (YF.1 hk).1 (λe=>A9 (hr k e.symm))).trans hk
  exact⟨hI i X Y row h1 Dy λr e=> .inl (hr r e),keep _ _ h2 (by omega),keep _ _ h3 (by omega)⟩
 ·rintro i x W ⟨hi,hl,hk⟩ hx;have A3:w.heap.size+1<W.heap.size:=(YF.1 hl).1;have hy:=run_yield (P:=Tryp.prog) (args:= #[str x]) hl (by rw[Cu];rfl);rw[Cu] at hy;refine⟨fn,_,assign,body,hy,roundIn_of_wpIn hfn (M0 _ x W _ ?_)⟩;refine⟨_,run_beginRound hl (by rw[Cu]),?_⟩;have Hk:(W.putObj (w.heap.size+1) (.loop {rec .ready with state:= .busy})).heap[w.heap.size+1]? =some (.loop {rec .ready with state:= .busy}):=World.putObj_heap_same A3;have Az:(W.putObj (w.heap.size+1) (.loop {rec .ready with state:= .busy})).heap[w.heap.size]? =some (.deferred (some [])):=(VY (by omega)).trans hk;have Cn:(W.putObj (w.heap.size+1) (.loop {rec .ready with state:= .busy})).heap[ss]? =W.heap[ss]? :=VY (by omega);refine wpIn_mono (U9 _ i x _ hx (hI i W _ _ hi (QX W _ _) λr e=> .inr (by cases e;exact⟨by omega,_,hl,rfl⟩))) ?_;rintro e a3 W3 ⟨rfl,Vn,Cg,Kx⟩;have Kl:=Vn.same _ _ (by omega) Hk rfl;have C9:=run_endRound (P:=Tryp.prog) none Kl;rw[Cu] at C9;refine⟨_,_,C9,rfl,⟨hI (i+1) W3 _ _ Kx (QX W3 _ _) λr e=> .inr (by cases e;exact⟨by omega,_,Kl,rfl⟩),?_,?_⟩,?_⟩
  ·rw[Cu];exact World.putObj_heap_same (YF.1 Kl).1
  ·exact(VY (by omega)).trans (Vn.same _ _ (XB _) Az rfl)
  ·exact(VY (by omega)).trans (Cg.trans Cn)
 ·rintro e W2 ⟨⟨v,rfl⟩,hi,hl,hk⟩;have hr:=run_endLoop (P:=Tryp.prog) hl (by rw[Cu];simp);rw[Cu] at hr;exact⟨none,_,hr,Ua _ _ (XB _) (hI _ W2 _ _ hi (QX W2 _ _) λr e=> .inr (by cases e;exact⟨by omega,_,hl,rfl⟩)) ((VY (by omega)).trans hk)⟩
theorem lIB:Lays.n137 prog ren:=by
 constructor
 all_goals first
  |(with_reducible refine ZV (n:=_) ?_ ?_)<;>kernel_rfl
  |(intros;kernel_rfl)
theorem ZoG(l:List UInt8)(w:World):Calls Tryp.prog 125 #[str l,.int .u8 10] w λe w'=>e= .returned (.int .i64 (Lib.indexByte l 10))/\w'=w:=
 Any.strings_IndexByte lIB ⟨l.toArray⟩ 10 w
theorem Zrl{l:List UInt8}(h:s.data.toList=l):s=⟨l.toArray⟩:=by
 subst h;simp
theorem Zr6(x r:List UInt8):(⟨(x++r).toArray⟩:ByteArray).extract 0 x.length=⟨x.toArray⟩:=Zrl (by
 rw[Lib.extract_from_zero];show((x++r).toArray.toList).take x.length=x;simp)
theorem ZqL(x r:List UInt8):(⟨(x++r).toArray⟩:ByteArray).extract x.length (x++r).length=⟨r.toArray⟩:=Zrl (by
 have h:=Lib.extract_to_end (⟨(x++r).toArray⟩:ByteArray) x.length;have e:(⟨(x++r).toArray⟩:ByteArray).size=(x++r).length:=by show(x++r).toArray.size=_;simp
 rw[e] at h;rw[h];show((x++r).toArray.toList).drop x.length=r;simp)
theorem ZpO(ss:Nat)(T:List (List UInt8))(hP:Pcs T)(A1:T.flatten.length<=100000)(yl:Nat)(J:Nat->World->Prop)(W:World)
 (hJ:∀i W1 W2 row,J i W1->W1.grownBy W2 row->(∀r,row=some r->r=ss)->J i W2)
 (hY:∀i x W1,J i W1->T[i]? =some x->YieldAt Fence.wide (n+1) Tryp.prog yl #[str x] W1 λe W2=>e= .returned (.bool true)/\J (i+1) W2/\W2.heap[ss]? =W1.heap[ss]?)
 (h0:J 0 W)(hs:W.heap[ss]? =some (.cells #[str T.flatten] 9)):
 CallsIn Fence.wide (n+2) Tryp.prog 124 #[.func (.yield yl) #[] #[],.pointer (some ⟨ss,0,none⟩)] W λe W'=>(∃v,e= .returned v)/\J T.length W':=by
 replace A1:Hid (T.flatten.length<=100000):=A1;replace hP:Hid (Pcs T):=hP;refine callsIn_of_wp (fq Tryz.func124) rfl trivial ?_ rfl;simp only[Tryz.ntmps124,VZ,YP,XM,Nat.reduceAdd,Nat.reduceSub,UV,UU,TH,UX,YJ,YK]
 gi_wp2
 gi_loopw [3] (λ_ wr=>∃i:Nat,i<=T.length/\J i wr/\wr.heap[ss]? =some (.cells #[str (T.drop i).flatten] 9)) (λ_ wr=>match wr.cell? ⟨ss,0,none⟩ with|some (.string s)=>s.size|_=>0)
 case atStart=>exact⟨0,XS _,h0,hs⟩
 case round=>
  obtain⟨i,hi,Yt,I0⟩:=hrel;have q0:=Z0 I0 0;have z0:=Z8 I0 0;simp only[YC,YA] at q0;by_cases Ao:i=T.length
  ·subst Ao;simp only[TB,List.flatten_nil] at q0
   gi_wp2
   go_end0
   exact⟨⟨_,rfl⟩,Yt⟩
  ·obtain⟨x,hx⟩:∃x,T[i]? =some x:=⟨_,YH (by omega)⟩;obtain⟨B,hB⟩:=hP.out i x hx;have hd:(T.drop i).flatten=x++(T.drop (i+1)).flatten:=by
    obtain⟨A3,rfl⟩:=YI.1 hx;rw[SV A3,SM]
   have Wb:(x++(T.drop (i+1)).flatten).length<=100000:=by
    rw[<-hd];refine XD ?_ A1.out;have:=SG (λl=>(List.flatten l).length) (List.take_append_drop i T);simp only[List.flatten_append,XK] at this;omega
   rw[hd] at q0 I0;have H7:=ZoG (x++(T.drop (i+1)).flatten);have Wc:=hY i x;have hR:Hid ((T.drop (i+1)).flatten=(T.drop (i+1)).flatten):=rfl;clear hY hd hs h0;generalize Wd:(T.drop (i+1)).flatten=R at q0 Wb H7 hB I0;replace Wd:Hid _:=Wd;obtain⟨L,hL⟩:∃L,Hid (L=x++R):=⟨_,rfl⟩;have Ub:L.length=x.length+R.length:=by rw[hL.out,XK]
   rw[<-hL.out] at q0 Wb H7 I0;replace I0:Hid _:=I0;rcases hB.2 with C4|⟨C4,Aw,A9⟩
   ·have e:Lib.indexByte L 10=B.length:=(by rw[hL.out,C4,QG];exact Zrk 10 R B hB.1);rw[e] at H7;have Na:x.length=B.length+1:=(by rw[C4];simp);have hb:(B.length:Int)+1<=L.length:=(by omega);have As:0<L.length:=(by omega);have C2:(L.length:Int)<=100000:=(by omega);clear Wb hB e;replace C4:Hid _:=C4;replace Ub:Hid _:=Ub;replace Na:Hid _:=Na
    gi_wp2_with (first
     |(refine⟨trivial,?_⟩;gi_at_call 125;refine(TX.2 (H7 _)).mono ?_;rintro e w2 ⟨rfl,rfl⟩))
    rename_i K hK
    gi_region
    have eL:(⟨L.toArray⟩:ByteArray).extract 0 (B.length+1)=⟨x.toArray⟩:=(by rw[hL.out,<-Na.out];exact Zr6 x R);have eR:(⟨L.toArray⟩:ByteArray).extract (B.length+1) L.length=⟨R.toArray⟩:=(by rw[hL.out,<-Na.out];exact ZqL x R);rw[eL,eR];have hg:=QS w2 ss (str R);have C7:w2.grownBy (w2.setCell ⟨ss,0,none⟩ (str R)).drew (some ss):=⟨hg.os,hg.tape,hg.output,hg.size,hg.block⟩;have Cg:(w2.setCell ⟨ss,0,none⟩ (str R)).drew.heap[ss]? =some (.cells #[str R] 9):=Zb I0.out (i:=0) (str R);have Jh:=hJ i w2 _ _ Yt C7 (λr h=>(by cases h;rfl));generalize (w2.setCell ⟨ss,0,none⟩ (str R)).drew=w3 at Cg Jh⊢;obtain⟨fn9,tmps9,assign9,body9,Q8,Q9⟩:=Wc w3 Jh hx;clear Wc hJ
    gi_wp2
    refine Q9.mono ?_;rintro e W3 ⟨rfl,Sg,Fh⟩
    gi_wp2
    have q9:=Z0 (Fh.trans Cg) 0;go_roundw
    case rel=>exact⟨i+1,by omega,Sg,by rw[Fh,Cg,Wd.out]⟩
    case measure=>rw[q9,q0];show R.toArray.size<L.toArray.size;simp;have:=Ub.out;have:=Na.out;omega
   ·have e:Lib.indexByte L 10= -1:=(by rw[hL.out,C4,Aw,UQ];exact Zqe 10 B hB.1);rw[e] at H7;have As:0<L.length:=by
     have:0<B.length:=List.length_pos_iff.2 A9;rw[hL.out,C4,XK];omega
    have hxL:Hid (L=x):=(by show _=_;rw[hL.out,Aw,UQ]);clear Wb hB e;replace C4:Hid _:=C4;replace Aw:Hid _:=Aw;replace Ub:Hid _:=Ub
    gi_wp2_with (first
     |(refine⟨trivial,?_⟩;gi_at_call 125;refine(TX.2 (H7 _)).mono ?_;rintro e w2 ⟨rfl,rfl⟩))
    have hg:=QS w2 ss (.string ⟨#[]⟩);have Cg:(w2.setCell ⟨ss,0,none⟩ (.string ⟨#[]⟩)).heap[ss]? =some (.cells #[.string ⟨#[]⟩] 9):=Zb I0.out (i:=0) _;have Jh:=hJ i w2 _ _ Yt hg (λr h=>(by cases h;rfl));obtain⟨fn9,tmps9,assign9,body9,Q8,Q9⟩:=Wc _ Jh hx;rw[<-hxL.out] at Q8;clear Wc hJ;generalize w2.setCell ⟨ss,0,none⟩ (.string ⟨#[]⟩)=w3 at Cg Jh Q8 Q9⊢;rw[Q8]
    gi_wp2
    refine Q9.mono ?_;rintro e W3 ⟨rfl,Sg,Fh⟩
    gi_wp2
    have q9:=Z0 (Fh.trans Cg) 0;go_roundw
    case rel=>exact⟨i+1,by omega,Sg,by rw[Fh,Cg,Wd.out,Aw.out]⟩
    case measure=>rw[q9,q0];show(#[]:Array UInt8).size<L.toArray.size;simp;omega
theorem Zov(b:UInt8)(r:List UInt8)(w:World)(hl:r.length<=500)(h45:b≠45)(ht:Lib.trimS (b::r) [48,49,50,51,52,53,54,55,56,57]≠[])(he:ErrF w):
 Calls Tryp.prog 131 #[str (b::r)] w λe w'=>(∃t v,e= .returned (.tuple #[.int .i64 0,.iface t v]))/\Ext w w':=by
 have J4:Lib.hasPrefix (b::r) [45]=false:=by
  have h2:(45==b)=false:=by rw[UC];exact λe=>h45 e.symm
  simp[Lib.hasPrefix,List.isPrefixOf,h2]
 have hp:Lib.trimPrefix (b::r) [45]=b::r:=by rw[Lib.trimPrefix,J4];rfl
 have Hb:=λw=>Zo3 (b::r) [45] w
 rw[hp,J4] at Hb;have N8:=λw=>Zpt (b::r) w (by simp) (by simp;omega)
 have Pz:(str (Lib.trimS (b::r) [48,49,50,51,52,53,54,55,56,57])=str [])=False:=by
  rw[eq_iff_iff,iff_false];intro e;have e2:=SG (λv=>match v with| .string s=>s.data.toList|_=>[]) e;exact ht (by simpa using e2)
 generalize Lib.trimS (b::r) [48,49,50,51,52,53,54,55,56,57]=T at N8 ht Pz;obtain⟨c,T,rfl⟩:∃c t,T=c::t:=by cases T with|nil=>exact absurd rfl ht|cons c t=>exact⟨c,t,rfl⟩
 clear hp J4 ht Pz;obtain⟨t,v,he⟩:=he;by_cases h8:r.length<=8
 all_goals
  go_enter fq Tryz.func131,Tryz.ntmps131
  go_wp2_with (first
   |(go_at_call 158;refine(Hb _).mono ?_;rintro e wr ⟨rfl,rfl⟩)
   |(go_at_call 65;refine(Z09 _ _ _ _).mono ?_;rintro e wr ⟨rfl,rfl⟩)
   |(go_at_call 159;refine(N8 _).mono ?_;rintro e w2 ⟨rfl,A4⟩;have Em:=A4.cellS he))
 all_goals
  rename_i K hK
  go_region
  all_goals
   refine hK _ _ ?_;go_wp2;go_ret2
 ·exact⟨⟨t,v,rfl⟩,A4.drew⟩
 ·exact⟨⟨t,v,rfl⟩,(Ext.rfl' wr).drew⟩
theorem Zpw(b n c:Nat)(w:World)(hn:n<=100)(hc:∀j,j<n->w.cell? ⟨b,j,none⟩=some .nilIface):
 Calls Tryp.prog 130 #[.slice (some ⟨b,0,none⟩) n c] w λe w'=>e= .returned .nilIface/\w'=w:=by
 replace hc:Hid (∀j,j<n->w.cell? ⟨b,j,none⟩=some .nilIface):=hc;go_enter fq Tryz.func130,Tryz.ntmps130;go_wp2;obtain⟨wo,rfl⟩:∃wo:World,wo=w:=⟨_,rfl⟩;go_loopw [3,11] (λv3 v11 wr=>∃i:Nat,i<=n/\v11= .int .i64 i/\v3= .int .i64 0/\wr=wo) (λ_ v11 _=>n - (intOf v11).toNat)
 case atStart=>exact⟨0,by omega,rfl,rfl,rfl⟩
 case round=>
  obtain⟨i,hi,rfl,rfl,rfl⟩:=hrel;by_cases Ao:i=n
  ·subst Ao;go_wp2;go_ret;exact⟨rfl,rfl⟩
  ·have A3:(i:Int)<(n:Int):=by omega
   have c0:=hc.out i (by omega);go_wp2;go_roundw
   case rel=>exact⟨i+1,by omega,by push_cast;rfl,rfl,trivial⟩
   case measure=>simp[intOf];omega
theorem ZqU(t:Value)(w:World):Calls Tryp.prog 47 #[.nilIface,t] w λe w'=>e= .returned (.bool false)/\w'=w:=by
 go_enter fq Tryz.func47,Tryz.ntmps47;go_wp2;go_ret;simp
theorem Zom{T:List (List UInt8)}(j:Nat)(x:List UInt8)(h:T[j]? =some x):(w.alloc (.cells (T.map str).toArray 9)).cell? ⟨w.heap.size,j,none⟩=some (str x):=by
 rw[Z0 (by rw[Z3,YZ rfl])];simp[h]
theorem Znv{l:List Int}(h:OwnI b0 w (.slice (some ⟨g,0,none⟩) n cp) l)(j:Nat)(x:Int)(hx:l[j]? =some x):w.cell? ⟨g,j,none⟩=some (.int .i64 x):=by
 have:=h.cells (g:=g) rfl j (.int .i64 x) (by simp[hx])
 rwa [Z0c] at this
theorem ZnU(word:List UInt8)(T:List (List UInt8))(w:World)(h4:T.length=4)(Uc:∀y∈word::T,big y)(A1:∀y∈word::T,y.length<=1000)(hx:MaxL w):
 ∃B w1,Ext w w1/\B<w1.heap.size/\(∀(j:Nat)(x:List UInt8),(word::T)[j]? =some x->w1.cell? ⟨B,j,none⟩=some (str x))/\
  Calls Tryp.prog 126 #[str ([32].intercalate (word::T)),.string ⟨#[32]⟩] w (λe w'=>e= .returned (.slice (some ⟨B,0,none⟩) 5 5)/\w'=w1)/\
  Calls Tryp.prog 127 #[.slice (some ⟨B,0,none⟩) 5 5,.string ⟨#[]⟩] w1 (λe w'=>e= .returned (.bool false)/\w'=w1):=by
 have Qa:([32].intercalate (word::T)).length<=100000:=by
  have:=ZnA 1000 (word::T) A1;rw[YP,h4] at this;omega
 have D7:=Zqh word T w Qa (λy hy=>(Uc y hy).sp) hx;rw[h4] at D7;refine⟨w.heap.size,_,(Ext.rfl' w).alloc _,by simp,λj x h=>Zom j x h,D7,?_⟩;exact ZoX _ 5 5 (word::T) _ (by simp[h4]) (by omega) (λx hx=>(Uc x hx).1) (λj x h=>by rw[UA];exact Zom j x h)
theorem ZnL(h:okP x):(Lib.itoa x).length<=1000:=XD (UJ _ h.s.1 h.s.2) (by omega)
theorem ZnV(ha:okP a)(hb:okP b)(hc:okP c)(hm:okP m):∀y∈ZX a b c m,y.length<=1000:=by
 intro x hx;simp only[ZX,VC,VQ,XE,XL,VO] at hx;rcases hx with rfl|rfl|rfl|rfl<;>(apply ZnL;assumption)
theorem Zp0(ha:okP a)(hb:okP b)(hc:okP c)(hm:okP m)(j:Nat)(x:List UInt8)(y:Int)(h1:(ZX a b c m)[j]? =some x)(h2:[a,b,c,m][j]? =some y)(w:World):
 Calls Tryp.prog 131 #[str x] w λe w'=>e= .returned (.tuple #[y,.nilIface])/\Ext w w':=by
 rw[ZX,List.getElem?_map,h2] at h1;obtain rfl:=YT h1;have hy:okP y:=by
  have:=YQ h2;simp only[XE,XL,VO] at this;rcases this with rfl|rfl|rfl|rfl<;>assumption
 exact Znx (ZpL hy) w
theorem Zpl(a b c m:Int)(w:World)(ha:okP a)(hb:okP b)(hc:okP c)(hm:okP m)(hx:MaxL w):
 Calls Tryp.prog 86 #[str ([32].intercalate ([114,117,108,101]::ZX a b c m))] w λe w'=>e= .returned (.tuple #[.iface 96 (.agg #[a,b,c,m]),.nilIface])/\Ext w w':=by
 obtain⟨B,w1,Ab,Kk,Cm,D7,P4⟩:=ZnU [114,117,108,101] (ZX a b c m) w rfl (ZnB ⟨by decide,by decide⟩ (Zoj ha hb hc hm)) (by
  intro y hy;rcases XE.1 hy with rfl|hy
  ·decide
  ·exact ZnV ha hb hc hm y hy) hx
 have q0:=Cm 0 [114,117,108,101] rfl;have Ky:=λW hW=>Zo1 B 1 4 4 (ZX a b c m) [a,b,c,m] W rfl rfl (by omega) (λj x h=>(show Ext w1 W from hW).cellS (by rw[Nat.add_comm];exact Cm (j+1) x h)) (hW.lt Kk) (Zp0 ha hb hc hm)
 clear Cm ha hb hc hm hx;generalize [32].intercalate ([114,117,108,101]::ZX a b c m)=txt at D7⊢;go_enter fq Tryz.func86,Tryz.ntmps86
 go_wp2_with (first
  |(go_at_call 126;refine D7.mono ?_;rintro e w2 ⟨rfl,rfl⟩)
  |(go_at_call 127;refine P4.mono ?_;rintro e w3 ⟨rfl,rfl⟩))
 rename_i K hK
 go_region
 all_goals
  refine hK _ _ ?_
  go_wp2_with (go_at_call 128;refine(Ky _ (by first|exact(Ext.rfl' _).drew|exact Ext.rfl' _)).mono ?_;rintro e w4 ⟨v,rfl,Ac,Ak⟩
               obtain⟨g,cp,rfl,Fm,C7⟩:=XP Ac (by simp);have c0:=Znv Ac 0 a rfl;have c1:=Znv Ac 1 b rfl;have c2:=Znv Ac 2 c rfl;have c3:=Znv Ac 3 m rfl;clear Ac)
  rename_i K2 Jl
  go_region
  all_goals
   refine Jl _ _ ?_;go_wp2;go_ret2;exact⟨rfl,(Ab.drew.trans Ak).drew⟩
theorem Zp1(a b c m:Int)(w:World)(ha:okP a)(hb:okP b)(hc:okP c)(hm:okP m)(hx:MaxL w):
 Calls Tryp.prog 86 #[str ([32].intercalate ([115,105,103,104,116]::ZX a b c m))] w λe w'=>e= .returned (.tuple #[.iface 108 (.agg #[a,b,c,m]),.nilIface])/\Ext w w':=by
 obtain⟨B,w1,Ab,Kk,Cm,D7,P4⟩:=ZnU [115,105,103,104,116] (ZX a b c m) w rfl (ZnB ⟨by decide,by decide⟩ (Zoj ha hb hc hm)) (by
  intro y hy;rcases XE.1 hy with rfl|hy
  ·decide
  ·exact ZnV ha hb hc hm y hy) hx
 have q0:=Cm 0 [115,105,103,104,116] rfl;have Ky:=λW hW=>Zo1 B 1 4 4 (ZX a b c m) [a,b,c,m] W rfl rfl (by omega) (λj x h=>(show Ext w1 W from hW).cellS (by rw[Nat.add_comm];exact Cm (j+1) x h)) (hW.lt Kk) (Zp0 ha hb hc hm)
 clear Cm ha hb hc hm hx;generalize [32].intercalate ([115,105,103,104,116]::ZX a b c m)=txt at D7⊢;go_enter fq Tryz.func86,Tryz.ntmps86
 go_wp2_with (first
  |(go_at_call 126;refine D7.mono ?_;rintro e w2 ⟨rfl,rfl⟩)
  |(go_at_call 127;refine P4.mono ?_;rintro e w3 ⟨rfl,rfl⟩))
 rename_i K hK
 go_region
 all_goals
  refine hK _ _ ?_
  go_wp2_with (go_at_call 128;refine(Ky _ (by first|exact(Ext.rfl' _).drew|exact Ext.rfl' _)).mono ?_;rintro e w4 ⟨v,rfl,Ac,Ak⟩
               obtain⟨g,cp,rfl,Fm,C7⟩:=XP Ac (by simp);have c0:=Znv Ac 0 a rfl;have c1:=Znv Ac 1 b rfl;have c2:=Znv Ac 2 c rfl;have c3:=Znv Ac 3 m rfl;clear Ac)
  rename_i K2 Jl
  go_region
  all_goals
   refine Jl _ _ ?_;go_wp2;go_ret2;exact⟨rfl,(Ab.drew.trans Ak).drew⟩
end Go.Proofs.Tryp
