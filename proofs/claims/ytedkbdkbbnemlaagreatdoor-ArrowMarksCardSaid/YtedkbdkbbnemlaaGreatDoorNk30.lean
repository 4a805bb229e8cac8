import Derived.Test.YtedkbdkbbnemlaaGreatDoorNk29
import Derived.Deep.AppendLies
set_option linter.all false
namespace Go.Proofs.Tryq
set_option maxRecDepth 100000
set_option maxHeartbeats 4000000
open Go Go.Nk Go.RowKit
set_option linter.all false
theorem ZkI(r0 r1 r2 r3 a b:Int)(S:List Rs):Z1O r0 r1 r2 r3 S a b=if ZT r0 r1 r2 r3 S a=0 then(if Zv b=0 then(if Z6v a b=0 then Zkk r0 r1 r2 r3 S else Z6v a b) else Zv b) else ZT r0 r1 r2 r3 S a:=by
 rw[Z1O,ZkC,ZT];have e:firstV [Zv a,Zv b,Z6v a b]=if Zv a=0 then(if Zv b=0 then Z6v a b else Zv b) else Zv a:=by
  simp only[firstV];split
  ·split
   ·split
    ·rename_i h;rw[h]
    ·rfl
   ·rfl
  ·rfl
 rw[e];by_cases hc:ZC r0 r1 r2 r3 S=0
 ·rw[if_pos hc,if_pos hc];by_cases hf:Zv a=0
  ·rw[if_pos hf,if_pos hf];by_cases hb:Zv b=0
   ·rw[if_pos hb,if_pos hb]
   ·rw[if_neg hb,if_neg hb,if_neg hb]
  ·rw[if_neg hf,if_neg hf,if_neg hf]
 ·rw[if_neg hc,if_neg hc,if_neg hc]
theorem Zkw(r0 r1 r2 r3 a b:Int)(base:Option Addr)(n cap:Nat)(S:List Rs)(w:World)(A0:S.length=n)(hn:n<=20)(hS:RawS w base S):
 Calls prog 80 #[.agg #[.int .i64 r0,.int .i64 r1,.int .i64 r2,.int .i64 r3,.slice base n cap],.int .i64 a,.int .i64 b] w fun e w'=>e= .returned (.tuple #[.int .i64 (ZaT r0 r1 r2 r3 S a b).1,.agg #[.int .i64 (ZaT r0 r1 r2 r3 S a b).2.1,.int .i64 (ZaT r0 r1 r2 r3 S a b).2.2],.int .i64 (Z1O r0 r1 r2 r3 S a b)])/\Ext w w':=by
 have hA:=fun W (hW:Ext w W)=>Zkm r0 r1 r2 r3 a base n cap S W A0 (hS.ext hW)
 have hB:=fun W (hW:Ext w W)=>Zko r0 r1 r2 r3 base n cap S W A0 hn (hS.ext hW)
 have hI:=fun W=>Z4r b 0 90 W
 have B5:=ZkI r0 r1 r2 r3 a b S;have Au:=((Ext.rfl' w).alloc (.cells #[.int .i64 r0,.int .i64 r1,.int .i64 r2,.int .i64 r3,.slice base n cap] 70)).alloc (.cells #[.int .i64 0,.int .i64 0] 48);have Bz:((w.alloc (.cells #[.int .i64 r0,.int .i64 r1,.int .i64 r2,.int .i64 r3,.slice base n cap] 70)).alloc (.cells #[.int .i64 0,.int .i64 0] 48)).heap[w.heap.size]? =some (.cells #[.int .i64 r0,.int .i64 r1,.int .i64 r2,.int .i64 r3,.slice base n cap] 70):=by simp only[Z3,Z2];rw[if_neg (by omega),if_pos trivial]
 have Gi:((w.alloc (.cells #[.int .i64 r0,.int .i64 r1,.int .i64 r2,.int .i64 r3,.slice base n cap] 70)).alloc (.cells #[.int .i64 0,.int .i64 0] 48)).heap[w.heap.size+1]? =some (.cells #[.int .i64 0,.int .i64 0] 48):=by simp only[Z3,Z2];rw[if_pos trivial]
 by_cases h1:ZT r0 r1 r2 r3 S a=0
 ·rw[if_pos h1] at B5;simp only[h1] at hA;have hF:Zv b=if decide (0<=b/\b<=90) then 0 else 1:=by unfold Zv okN;rfl
  by_cases h3:0<=b/\b<=90
  ·rw[decide_eq_true h3] at hI;have Gf:Zv b=0:=by rw[hF,decide_eq_true h3];rfl
   rw[if_pos Gf] at B5;by_cases h4:b<a
   ·have ho:Z6v a b=7:=if_pos h4;rw[ho,if_neg (by decide)] at B5;have Dc:ZaT r0 r1 r2 r3 S a b=(0,0,0):=(by rw[ZaT,B5];rfl);rw[Dc,B5];clear h1 h3 B5 Dc hB hF Gf ho;go_enter func80,ntmps80
    go_wp2_with (first
     |(go_at_call 131;refine(hA _ Au).mono ?_;rintro e w2 ⟨rfl,hF⟩
       have hE:=Au.trans hF;have hr:=hF.get Bz;have hz:=hF.get Gi;clear hF;have p:=Zc hz;have p0:=p.1;have p1:=p.2.1;have p2:=p.2.2.1;have p3:=p.2.2.2;clear p;obtain⟨q0,q1,q2,q3,q4⟩:=ZgE hr)
     |(go_at_call 93;refine(hI _).mono ?_;rintro e w5 ⟨rfl,rfl⟩))
    have hh:=Zc (set_pair hz (.int .i64 0) (.int .i64 0));have Dj:=hh.1;have Dp:=hh.2.1;refine bodyPost_ret (v:= .tuple #[.int .i64 0,.agg #[.int .i64 0,.int .i64 0],.int .i64 7]) ((Z3R rfl _ _ _).trans ?_) rfl ⟨rfl,(hE.setCell _ _ (by simp)).setCell _ _ (by simp)⟩;simp[go_sem,Dj,Dp]
   ·have ho:Z6v a b=0:=if_neg h4;rw[if_pos ho] at B5;by_cases h2:Zkk r0 r1 r2 r3 S=0
    ·obtain⟨hc,Mb⟩:=Zkp h1;have hg:=Zkn hc h2;have ha:=Z0N Mb;simp only[h2] at hB;have hp:=hg.pos;obtain⟨C,Oc⟩:∃C:Nat->Int×Int,C=fun d=>atF (cvS r0 r1 r2 r3 (S.map Ze)) (2 ^ S.length - 1) d S.length:=⟨_,rfl⟩
     have Yn:∀d:Nat,C d=Z4L r0 r1 r2 r3 S d:=fun d=>by rw[Oc,Z4L,Int.toNat_natCast]
     have hC:∀d:Nat,d<=90->∀W,Ext w W->Calls prog 133 #[.agg #[.int .i64 r0,.int .i64 r1,.int .i64 r2,.int .i64 r3,.slice base n cap],.int .i64 d] W fun e w'=>e= .returned (.agg #[.int .i64 (C d).1,.int .i64 (C d).2])/\Ext W w':=fun d hd W hW=>by
      rw[Yn,hg.mark_span (by omega),A0];exact Zkl r0 r1 r2 r3 d base n cap S W A0 hn (by omega) (hS.ext hW)
     have Ta:∀d:Nat,d<=90->-1000000<=(C d).1/\(C d).1<=(C d).2/\(C d).2<=1000000:=fun d hd=>by
      rw[Yn];have u:=hg.inB (d:=(d:Int)) (by omega);have v:=hg.le (d:=(d:Int)) (by omega);omega
     obtain⟨A,rfl⟩:=Int.eq_ofNat_of_zero_le ha.1;obtain⟨B,rfl⟩:=Int.eq_ofNat_of_zero_le h3.1;obtain⟨K,hK⟩:∃K,B=A+K:=⟨B - A,by omega⟩;have hWR:Hid (ZaT r0 r1 r2 r3 S A B=(((ZG C A K).1:Int),(ZG C A K).2)):=by
      show _=_;rw[ZaT,B5,if_pos h2,Oc,Int.toNat_natCast,show((B:Int) - (A:Int)).toNat=K by omega]
     have Ag:=fun j=>show ZG C A (j+1)=if wrap64 ((ZG C A j).2.2 - (ZG C A j).2.1)<wrap64 ((C (A+1+j)).2 - (C (A+1+j)).1) then(A+1+j,C (A+1+j)) else ZG C A j from rfl
     have Ek:∀j,j<=K->-1000000<=(ZG C A j).2.1/\(ZG C A j).2.1<=(ZG C A j).2.2/\(ZG C A j).2.2<=1000000:=fun j hj=>by
      induction j with
      |zero=>exact Ta A (by omega)
      |succ j ih=>rw[Ag];split;exact Ta _ (by omega);exact ih (by omega)
     have Yo:ZG C A 0=(A,C A):=rfl;rw[hWR.out,B5,h2];generalize ZG C A=G at Ag Ek Yo⊢;have hB9:B<=90:=(by omega);subst hK;clear h1 h2 B5 hg hp hF Gf ho hc Mb Yn Oc hWR h3 ha;go_enter func80,ntmps80
     go_wp2_with (first
      |(go_at_call 131;refine(hA _ Au).mono ?_;rintro e w2 ⟨rfl,hF⟩
        have hE:=Au.trans hF;have hr:=hF.get Bz;have hz:=hF.get Gi;clear hF;have p:=Zc hz;have p0:=p.1;have p1:=p.2.1;have p2:=p.2.2.1;have p3:=p.2.2.2;clear p;obtain⟨q0,q1,q2,q3,q4⟩:=ZgE hr)
      |(go_at_call 93;refine(hI _).mono ?_;rintro e w5 ⟨rfl,rfl⟩)
      |(go_at_call 132;refine(hB _ hE).mono ?_;rintro e w3 ⟨rfl,hF⟩
        replace hE:=hE.trans hF;replace hr:=hF.get hr;replace hz:=hF.get hz;clear hF q0 q1 q2 q3 q4 p0 p1 p2 p3;have p:=Zc hz;have p0:=p.1;have p1:=p.2.1;have p2:=p.2.2.1;have p3:=p.2.2.2;clear p;obtain⟨q0,q1,q2,q3,q4⟩:=ZgE hr)
      |(go_at_call 133;refine(hC A (by omega) _ hE).mono ?_;rintro e w4 ⟨rfl,hF⟩;have U6:=Z5 (hF.get hz)
        replace hF:=hF.alloc (.cells #[.int .i64 (C A).1,.int .i64 (C A).2] 48);have hx:=(Z3 w4 (.cells #[.int .i64 (C A).1,.int .i64 (C A).2] 48) w4.heap.size).trans (if_pos rfl);replace hE:=hE.trans hF;replace hr:=hF.get hr;replace hz:=hF.get hz;clear hF q0 q1 q2 q3 q4 p0 p1 p2 p3))
     obtain⟨bx,Fd⟩:∃z,z=w4.heap.size:=⟨_,rfl⟩;have G1:w.heap.size+1<bx:=(by rw[Fd];have:=U6;omega);rw[<-Fd] at hx⊢;clear Fd;generalize World.alloc w4 _=w5 at hE hr hz hx⊢;go_loopw [11,13] (fun v11 v13 wr=>∃j:Nat,v11= .int .i64 ((G j).1:Int)/\v13= .int .i64 ((A:Int)+1+j)/\j<=K/\Ext w wr/\wr.heap[w.heap.size]? =some (.cells #[.int .i64 r0,.int .i64 r1,.int .i64 r2,.int .i64 r3,.slice base n cap] 70)/\wr.heap[w.heap.size+1]? =some (.cells #[.int .i64 0,.int .i64 0] 48)/\wr.heap[bx]? =some (.cells #[.int .i64 (G j).2.1,.int .i64 (G j).2.2] 48)) (fun _ v13 _=>A+K+1 - (intOf v13).toNat)
     case atStart=>exact⟨0,by rw[Yo],by simp,Nat.zero_le _,hE,hr,hz,by rw[Yo];exact hx⟩
     case round=>
      clear hE hr hz hx;obtain⟨j,rfl,rfl,hj,hE,hr,hz,hx⟩:=hrel;have p:=Zc hx;have p0:=p.1;have p1:=p.2.1;clear p;by_cases hjK:j=K
      ·have N7:decide ((A:Int)+1+(j:Int)<=((A+K:Nat):Int))=false:=decide_eq_false (by omega);subst hjK;obtain⟨xd,Hx⟩:∃x:Int,x=((G j).1:Int):=⟨_,rfl⟩;rw[<-Hx];obtain⟨xa,D3⟩:∃x,x=(G j).2.1:=⟨_,rfl⟩;obtain⟨xb,Ld⟩:∃x,x=(G j).2.2:=⟨_,rfl⟩;rw[<-D3] at hx p0;rw[<-Ld] at hx p1;replace Hx:Hid (xd=((G j).1:Int)):=Hx;replace D3:Hid (xa=(G j).2.1):=D3;replace Ld:Hid (xb=(G j).2.2):=Ld;clear Ag Ek hC Ta;have g0:=Zet p0;have g1:=Zet p1;go_wp2_with fail;refine ZeG 3 (by kernel_rfl) ?_;refine ZeB [0,1,2] (by kernel_rfl) (by kernel_rfl) ?_;simp only[ZeD,List.getElem?_cons_succ,List.getElem?_cons_zero,List.cons_append,List.nil_append]
       repeat (go_big_quiet_step (fail))
       refine wpQuiet_nil ?_;refine Zfp 2 (by kernel_rfl) (fun W hW=> ?_);simp only[List.drop_succ_cons,List.drop_zero];replace hE:=hE.trans hW;replace hz:=hW.get hz;clear p0 p1 g0 g1 hW hx hr;have p:=Zc hz;have p0:=p.1;have p1:=p.2.1;have p2:=p.2.2.1;have p3:=p.2.2.2;clear p;go_wp2_with fail;refine Zfm ?_;go_wp2_with fail;have hh:=Zc (set_pair hz (.int .i64 xa) (.int .i64 xb));have Dj:=hh.1;have Dp:=hh.2.1;refine bodyPost_ret (v:= .tuple #[.int .i64 xd,.agg #[.int .i64 xa,.int .i64 xb],.int .i64 0]) ((Z3R rfl _ _ _).trans ?_) rfl ⟨by rw[Hx.out,D3.out,Ld.out],(hE.setCell _ _ (by simp)).setCell _ _ (by simp)⟩;simp[go_sem,Dj,Dp]
      ·have Ci:j<K:=(by omega);have N7:decide ((A:Int)+1+(j:Int)<=((A+K:Nat):Int))=true:=decide_eq_true (by omega);obtain⟨e,he⟩:∃e:Nat,e=A+1+j:=⟨_,rfl⟩;have hd:(A:Int)+1+(j:Int)=(e:Int):=(by omega);have Ku:e<=90:=(by omega);have HS:Hid (G (j+1)=if wrap64 ((G j).2.2 - (G j).2.1)<wrap64 ((C e).2 - (C e).1) then(e,C e) else G j):=(by show _=_;rw[Ag,he]);have u1:=Ek j hj;have u2:=Ta e Ku;have Yp:=hC e Ku;rw[hd] at N7⊢;clear he Ag Ek hC Ta;obtain⟨xa,D3⟩:∃x,x=(G j).2.1:=⟨_,rfl⟩;obtain⟨xb,Ld⟩:∃x,x=(G j).2.2:=⟨_,rfl⟩;obtain⟨ya,Yq⟩:∃x,x=(C e).1:=⟨_,rfl⟩;obtain⟨yb,hyb⟩:∃x,x=(C e).2:=⟨_,rfl⟩;have Tb:C e=(ya,yb):=(by rw[Yq,hyb]);rw[<-D3] at hx p0 u1 HS;rw[<-Ld] at hx p1 u1 HS;rw[<-Yq,<-hyb] at Yp u2;rw[Tb] at HS;have Jn:wrap64 (xb - xa)=xb - xa:=Z6a _ (by omega);have Em:wrap64 (yb - ya)=yb - ya:=Z6a _ (by omega);replace HS:Hid (G (j+1)=if xb - xa<yb - ya then(e,(ya,yb)) else G j):=(by show _=_;rw[HS.out,Jn,Em]);replace D3:Hid (xa=(G j).2.1):=D3;replace Ld:Hid (xb=(G j).2.2):=Ld;clear Yq hyb Tb Jn Em;obtain⟨q0,q1,q2,q3,q4⟩:=ZgE hr;by_cases Hn:xb - xa<yb - ya
       ·have HN:Hid (G (j+1)=(e,(ya,yb))):=(by show _=_;rw[HS.out,if_pos Hn]);clear HS
        go_wp2_with (first
         |(go_at_call 133;refine(Yp _ hE).mono ?_;rintro r w6 ⟨rfl,hF⟩
           have hy:=(Z3 w6 (.cells #[.int .i64 ya,.int .i64 yb] 48) w6.heap.size).trans (if_pos rfl);replace hF:=hF.alloc (.cells #[.int .i64 ya,.int .i64 yb] 48);replace hE:=hE.trans hF;replace hr:=hF.get hr;replace hz:=hF.get hz;replace hx:=hF.get hx;clear hF q0 q1 q2 q3 q4 p0 p1;have p:=Zc hx;have p0:=p.1;have p1:=p.2.1;have y:=Zc hy;have y0:=y.1;have y1:=y.2.1;clear p y))
        have y:=Zc hy;have y0:=y.1;have y1:=y.2.1;clear y;have g0:=Zet y0;have g1:=Zet y1;go_wp2_with fail;refine ZeG 3 (by kernel_rfl) ?_;refine ZeB [0,1,2] (by kernel_rfl) (by kernel_rfl) ?_;simp only[ZeD,List.getElem?_cons_succ,List.getElem?_cons_zero,List.cons_append,List.nil_append]
        repeat (go_big_quiet_step (fail))
        refine wpQuiet_nil ?_;refine Zfp 1 (by kernel_rfl) (fun W hW=> ?_);simp only[List.drop_succ_cons,List.drop_zero];replace hE:=hE.trans hW;replace hz:=hW.get hz;replace hx:=hW.get hx;replace hr:=hW.get hr;clear p0 p1 g0 g1 hW y0 y1 hy;have p:=Zc hx;have p0:=p.1;have p1:=p.2.1;have p2:=p.2.2.1;have p3:=p.2.2.2;clear p;have Av:=set_pair hx (.int .i64 ya) (.int .i64 yb);have Jw:=Zfl (i:=0) (j:=1) (u:= .int .i64 ya) (v:= .int .i64 yb) (show w.heap.size+1≠bx by omega) hz;have Cp:=Zfl (i:=0) (j:=1) (u:= .int .i64 ya) (v:= .int .i64 yb) (show w.heap.size≠bx by omega) hr;have A8:=(hE.setCell ⟨bx,0,none⟩ (.int .i64 ya) (show w.heap.size<=bx by omega)).setCell ⟨bx,1,none⟩ (.int .i64 yb) (show w.heap.size<=bx by omega);clear hE hx hz hr;go_wp2_with fail;generalize (W.setCell ⟨bx,0,none⟩ (.int .i64 ya)).setCell ⟨bx,1,none⟩ (.int .i64 yb)=Y at Av Jw Cp A8⊢;clear p0 p1 p2 p3;refine Zfm ?_;go_wp2_with fail;exact⟨⟨j+1,by rw[HN.out],(by rw[<-hd];push_cast;first|rfl|(apply congrArg (Value.int IntKind.i64);omega)),by omega,A8,Cp,Jw,by rw[HN.out];exact Av⟩,by simp[intOf];omega⟩
       ·have HN:Hid (G (j+1)=G j):=(by show _=_;rw[HS.out,if_neg Hn]);clear HS
        go_wp2_with (first
         |(go_at_call 133;refine(Yp _ hE).mono ?_;rintro r w6 ⟨rfl,hF⟩
           have hy:=(Z3 w6 (.cells #[.int .i64 ya,.int .i64 yb] 48) w6.heap.size).trans (if_pos rfl);replace hF:=hF.alloc (.cells #[.int .i64 ya,.int .i64 yb] 48);replace hE:=hE.trans hF;replace hr:=hF.get hr;replace hz:=hF.get hz;replace hx:=hF.get hx;clear hF q0 q1 q2 q3 q4 p0 p1;have p:=Zc hx;have p0:=p.1;have p1:=p.2.1;have y:=Zc hy;have y0:=y.1;have y1:=y.2.1;clear p y))
        go_wp2_with fail
        exact⟨⟨j+1,by rw[HN.out],(by rw[<-hd];push_cast;first|rfl|(apply congrArg (Value.int IntKind.i64);omega)),by omega,hE,hr,hz,by rw[HN.out,<-D3.out,<-Ld.out];exact hx⟩,by simp[intOf];omega⟩
    ·have A7:(Zkk r0 r1 r2 r3 S !=0)=true:=(by simpa using h2);have Dc:ZaT r0 r1 r2 r3 S a b=(0,0,0):=(by rw[ZaT,B5,if_neg h2]);rw[Dc,B5];generalize Zkk r0 r1 r2 r3 S=f at hB A7⊢;clear h1 h2 B5 Dc hF Gf ho;go_enter func80,ntmps80
     go_wp2_with (first
      |(go_at_call 131;refine(hA _ Au).mono ?_;rintro e w2 ⟨rfl,hF⟩
        have hE:=Au.trans hF;have hr:=hF.get Bz;have hz:=hF.get Gi;clear hF;have p:=Zc hz;have p0:=p.1;have p1:=p.2.1;have p2:=p.2.2.1;have p3:=p.2.2.2;clear p;obtain⟨q0,q1,q2,q3,q4⟩:=ZgE hr)
      |(go_at_call 93;refine(hI _).mono ?_;rintro e w5 ⟨rfl,rfl⟩)
      |(go_at_call 132;refine(hB _ hE).mono ?_;rintro e w3 ⟨rfl,hF⟩
        replace hE:=hE.trans hF;replace hr:=hF.get hr;replace hz:=hF.get hz;clear hF q0 q1 q2 q3 q4 p0 p1 p2 p3;have p:=Zc hz;have p0:=p.1;have p1:=p.2.1;have p2:=p.2.2.1;have p3:=p.2.2.2;clear p;obtain⟨q0,q1,q2,q3,q4⟩:=ZgE hr))
     have hh:=Zc (set_pair hz (.int .i64 0) (.int .i64 0));have Dj:=hh.1;have Dp:=hh.2.1;refine bodyPost_ret (v:= .tuple #[.int .i64 0,.agg #[.int .i64 0,.int .i64 0],.int .i64 f]) ((Z3R rfl _ _ _).trans ?_) rfl ⟨rfl,(hE.setCell _ _ (by simp)).setCell _ _ (by simp)⟩;simp[go_sem,Dj,Dp]
  ·rw[decide_eq_false h3] at hI;have Gf:Zv b=1:=by rw[hF,decide_eq_false h3];rfl
   rw[Gf,if_neg (by decide)] at B5;have Dc:ZaT r0 r1 r2 r3 S a b=(0,0,0):=by rw[ZaT,B5];rfl
   rw[Dc,B5];clear h1 h3 B5 Dc hB hF Gf;go_enter func80,ntmps80
   go_wp2_with (first
    |(go_at_call 131;refine(hA _ Au).mono ?_;rintro e w2 ⟨rfl,hF⟩
      have hE:=Au.trans hF;have hr:=hF.get Bz;have hz:=hF.get Gi;clear hF;have p:=Zc hz;have p0:=p.1;have p1:=p.2.1;have p2:=p.2.2.1;have p3:=p.2.2.2;clear p;obtain⟨q0,q1,q2,q3,q4⟩:=ZgE hr)
    |(go_at_call 93;refine(hI _).mono ?_;rintro e w5 ⟨rfl,rfl⟩))
   have hh:=Zc (set_pair hz (.int .i64 0) (.int .i64 0));have Dj:=hh.1;have Dp:=hh.2.1;refine bodyPost_ret (v:= .tuple #[.int .i64 0,.agg #[.int .i64 0,.int .i64 0],.int .i64 1]) ((Z3R rfl _ _ _).trans ?_) rfl ⟨rfl,(hE.setCell _ _ (by simp)).setCell _ _ (by simp)⟩;simp[go_sem,Dj,Dp]
 ·rw[if_neg h1] at B5;have A7:(ZT r0 r1 r2 r3 S a !=0)=true:=by simpa using h1
  have Dc:ZaT r0 r1 r2 r3 S a b=(0,0,0):=by rw[ZaT,B5,if_neg h1]
  rw[Dc,B5];generalize ZT r0 r1 r2 r3 S a=f at hA A7⊢;clear h1 B5 Dc hB hI;go_enter func80,ntmps80
  go_wp2_with (first
   |(go_at_call 131;refine(hA _ Au).mono ?_;rintro e w2 ⟨rfl,hF⟩
     have hE:=Au.trans hF;have hr:=hF.get Bz;have hz:=hF.get Gi;clear hF;have p:=Zc hz;have p0:=p.1;have p1:=p.2.1;have p2:=p.2.2.1;have p3:=p.2.2.2;clear p;obtain⟨q0,q1,q2,q3,q4⟩:=ZgE hr))
  have hh:=Zc (set_pair hz (.int .i64 0) (.int .i64 0));have Dj:=hh.1;have Dp:=hh.2.1;refine bodyPost_ret (v:= .tuple #[.int .i64 0,.agg #[.int .i64 0,.int .i64 0],.int .i64 f]) ((Z3R rfl _ _ _).trans ?_) rfl ⟨rfl,(hE.setCell _ _ (by simp)).setCell _ _ (by simp)⟩;simp[go_sem,Dj,Dp]
end Go.Proofs.Tryq
namespace Go.Proofs.Tryq
open Go Go.Nk Go.RowKit
set_option linter.all false
def Zk7(r0 r1 r2 r3:Int)(S:List Rs)(i:Nat):Bool:=(List.range 91).any fun d=>atF (cvS r0 r1 r2 r3 (S.map Ze)) (2 ^ S.length - 1) d S.length !=atF (cvS r0 r1 r2 r3 (S.map Ze)) ((2 ^ S.length - 1 - 2 ^ i:Nat):Int) d S.length
def Zku(r0 r1 r2 r3:Int)(S:List Rs)(i:Nat):Bool:=(S.length==1)||(List.range 91).any fun d=>Z57 r0 r1 r2 r3 S d ((upL S.length).eraseIdx i) !=Z57 r0 r1 r2 r3 S d (upL S.length)
theorem setL_less_all:(List.range 9).all (fun n=>(List.range n).all fun i=>ZN (2 ^ n - 1 - 2 ^ i)==(upL n).eraseIdx i)=true:=by kernel_rfl
theorem Zkb{n i:Nat}(hn:n<=8)(hi:i<n):ZN (2 ^ n - 1 - 2 ^ i)=(upL n).eraseIdx i:=by
 simpa using List.all_eq_true.1 (List.all_eq_true.1 setL_less_all n (List.mem_range.2 (by omega))) i (List.mem_range.2 hi)
theorem Zk8{n i:Nat}{p:Int}(hp:p∈(upL n).eraseIdx i):0<=p/\p<n:=mem_upL.1 ((List.eraseIdx_sublist _ _).subset hp)
theorem Zk6{n i:Nat}(hn:1<n)(hi:i<n):(upL n).eraseIdx i≠[]:=by
 have h:((upL n).eraseIdx i).length=n - 1:=by rw[List.length_eraseIdx,Zj5,if_pos hi]
 intro e;rw[e] at h;simp at h;omega
section
variable {r0 r1 r2 r3:Int} {S:List Rs} (hg:Fine r0 r1 r2 r3 S)
include hg
theorem Fine.mat{i:Nat}(hi:i<S.length):Zk7 r0 r1 r2 r3 S i=Zku r0 r1 r2 r3 S i:=by
 have h8:=hg.le8
 have hm:∀d,d<=90->atF (cvS r0 r1 r2 r3 (S.map Ze)) (2 ^ S.length - 1) d S.length=Z57 r0 r1 r2 r3 S d (upL S.length):=fun d hd=>by
  rw[<-hg.mark_span (d:=(d:Int)) (by omega),Z4L,Int.toNat_natCast]
 rw[Bool.eq_iff_iff,Zk7,Zku,List.any_eq_true,Bool.or_eq_true,List.any_eq_true];by_cases h1:S.length=1
 ·refine⟨fun _=> .inl (by rw[h1];rfl),fun _=>⟨0,List.mem_range.2 (by omega),?_⟩⟩;have Ce:i=0:=by omega
  have hb:=hg.inB (d:=0) (by omega);rw[hm 0 (by omega),show((0:Nat):Int)=0 from rfl,<-hg.mark_span (d:=0) (by omega),h1,Ce];have e:atF (cvS r0 r1 r2 r3 (S.map Ze)) ((2 ^ 1 - 1 - 2 ^ 0:Nat):Int) 0 1=(-1099511627776,1099511627776):=by
   rw[atF,show has ((2 ^ 1 - 1 - 2 ^ 0:Nat):Int) 0=false by kernel_rfl,if_neg (by decide)];rfl
  rw[e,bne_iff_ne];intro e2;rw[e2] at hb;simp only at hb;omega
 ·have D4:=hg.pos;have hs:=Zkb h8 hi;have A7:=Zk6 (n:=S.length) (i:=i) (by omega) hi
  have hq:∀d,d<=90->atF (cvS r0 r1 r2 r3 (S.map Ze)) ((2 ^ S.length - 1 - 2 ^ i:Nat):Int) d S.length=Z57 r0 r1 r2 r3 S d ((upL S.length).eraseIdx i):=fun d hd=>by
   have hp:=Nat.two_pow_pos S.length;have Ts:=Nat.two_pow_pos i;rw[ZaE hg.ok (k:=2 ^ S.length - 1 - 2 ^ i) (by omega) (by rw[hs];exact A7) hd,hs]
  constructor
  ·rintro⟨d,hd,h⟩;have Tj:=List.mem_range.1 hd;rw[hm d (by omega),hq d (by omega)] at h;exact .inr ⟨d,hd,by rw[bne_iff_ne] at h⊢;exact fun e=>h e.symm⟩
  ·rintro(h|⟨d,hd,h⟩)
   ·exact absurd (by simpa using h) h1
   ·have Tj:=List.mem_range.1 hd;refine⟨d,hd,?_⟩;rw[hm d (by omega),hq d (by omega)];rw[bne_iff_ne] at h⊢;exact fun e=>h e.symm
end
end Go.Proofs.Tryq
namespace Go.Proofs.Tryq
set_option maxRecDepth 100000
set_option maxHeartbeats 4000000
open Go Go.Nk Go.RowKit
set_option linter.all false
def ZjZ(r0 r1 r2 r3:Int)(S:List Rs):Int:=if ZC r0 r1 r2 r3 S=0 then Z1r r0 r1 r2 r3 (S.map Ze) else ZC r0 r1 r2 r3 S
def Zk0(r0 r1 r2 r3:Int)(S:List Rs)(i:Nat):List Int:=((List.range i).filter (Zk7 r0 r1 r2 r3 S)).map fun(i:Nat)=>(i:Int)
def ZjY(r0 r1 r2 r3:Int)(S:List Rs):List Int:=if ZjZ r0 r1 r2 r3 S=0 then Zk0 r0 r1 r2 r3 S S.length else[]
theorem Zk1(r0 r1 r2 r3:Int)(S:List Rs)(i:Nat):Zk0 r0 r1 r2 r3 S (i+1)=Zk0 r0 r1 r2 r3 S i++(if Zk7 r0 r1 r2 r3 S i then[(i:Int)] else[]):=by
 unfold Zk0;rw[List.range_succ,List.filter_append,List.map_append];congr 1;cases h:Zk7 r0 r1 r2 r3 S i<;>simp[h]
theorem Zkc(r0 r1 r2 r3:Int)(S:List Rs)(i:Nat):(Zk0 r0 r1 r2 r3 S i).length<=i:=by
 have:=List.length_filter_le (Zk7 r0 r1 r2 r3 S) (List.range i);simpa[Zk0] using this
theorem less_mask_all:(List.range 9).all (fun n=>(List.range n).all fun i=>bits .andNot .i64 ((2:Int) ^ n - 1) (wrap64 (2 ^ i))==((2 ^ n - 1 - 2 ^ i:Nat):Int))=true:=by kernel_rfl
theorem Zk9(r0 r1 r2 r3:Int)(base:Option Addr)(n cap:Nat)(S:List Rs)(w:World)(A0:S.length=n)(hS:RawS w base S)(hm:Most w):
 Calls prog 81 #[.agg #[.int .i64 r0,.int .i64 r1,.int .i64 r2,.int .i64 r3,.slice base n cap]] w fun e w'=>∃v,e= .returned (.tuple #[v,.int .i64 (ZjZ r0 r1 r2 r3 S)])/\OwnI w.heap.size w' v (ZjY r0 r1 r2 r3 S)/\Ext w w':=by
 have By:=Z0U r0 r1 r2 r3 base n cap S;simp only[Zh] at By;have hb:(w.alloc (.cells #[.int .i64 r0,.int .i64 r1,.int .i64 r2,.int .i64 r3,.slice base n cap] 70)).heap[w.heap.size]? =some (.cells #[.int .i64 r0,.int .i64 r1,.int .i64 r2,.int .i64 r3,.slice base n cap] 70):=by rw[Z3,if_pos rfl]
 have Af:Ext w _:=(Ext.rfl' w).alloc (.cells #[.int .i64 r0,.int .i64 r1,.int .i64 r2,.int .i64 r3,.slice base n cap] 70);have Cl:=By _ A0 (hS.ext Af);clear By;by_cases B8:ZC r0 r1 r2 r3 S=0
 ·obtain⟨_,h8,Br⟩:=Z0i B8;have hF:Hid (ZjZ r0 r1 r2 r3 S=Z1r r0 r1 r2 r3 (S.map Ze)):=if_pos B8;rw[B8] at Cl;clear B8;have C4:(S.map Ze).length=n:=by rw[List.length_map,A0]
  have Cx:n<=8:=by omega
  have Gh:=fun w hS=>Z2c r0 r1 r2 r3 base cap w (S.map Ze) n C4 Cx hS
  have H5:=Z2Z Cx;have D5:=fun B p w hm hC=>Z7j r0 r1 r2 r3 (.slice base n cap) B n (2 ^ n - 1) p (cvS r0 r1 r2 r3 (S.map Ze)) Cx H5 w hm hC
  have Ba:=fun v w=>Z08 r0 r1 r2 r3 base n cap v Cx w
  simp only[Zh] at Gh;have Tc:Hid (Z1r r0 r1 r2 r3 (S.map Ze)=if Zz (cvS r0 r1 r2 r3 (S.map Ze)) (2 ^ n - 1) n then 0 else 10):=by show _=_;rw[Z1r,C4]
  generalize Zz (cvS r0 r1 r2 r3 (S.map Ze)) (2 ^ n - 1) n=fb at D5 Tc;have C2:((2:Int) ^ S.length - 1)=2 ^ n - 1:=by rw[A0]
  have Kc:Hid (∀i,Zk7 r0 r1 r2 r3 S i=(List.range 91).any fun d=>atF (cvS r0 r1 r2 r3 (S.map Ze)) (2 ^ n - 1) d n !=atF (cvS r0 r1 r2 r3 (S.map Ze)) ((2 ^ n - 1 - 2 ^ i:Nat):Int) d n):=fun i=>by rw[Zk7,A0]
  have Yr:=A0;replace A0:Hid (S.length=n):=A0;cases fb
  ·have hR:Hid (ZjZ r0 r1 r2 r3 S=10):=by show _=_;rw[hF.out,Tc.out];rfl
   have hL:Hid (ZjY r0 r1 r2 r3 S=[]):=if_neg (by rw[hR.out];decide);clear hF Tc Yr C2 Kc;go_enter func81,ntmps81;go_wp2;refine wp_scope_straight ?_
   go_wp2_with (first
    |(go_at_call 62;refine Cl.mono ?_;rintro e w2 ⟨rfl,A8⟩;have Ah:=Af.trans A8;have Ai:=A8.get hb;have q0:=Z0 Ai 0;have q1:=Z0 Ai 1;have q2:=Z0 Ai 2;have q3:=Z0 Ai 3;have q4:=Z0 Ai 4;simp only[List.getElem?_toArray,List.getElem?_cons_zero,List.getElem?_cons_succ] at q0 q1 q2 q3 q4)
    |(go_at_call 123;refine(Gh _ (Z4J (hS.ext Ah) Br)).mono ?_;rintro e w3 ⟨B,p,rfl,Am,hC,_,_⟩;have Ay:=Ah.trans Am
      clear q0 q1 q2 q3 q4)
    |(go_at_call 106;refine(Ba _ _).mono ?_;rintro e w5 ⟨rfl,Bh⟩
      have hE:=(Ay.alloc (.cells #[.int .i64 r0,.int .i64 r1,.int .i64 r2,.int .i64 r3,.slice base n cap,.slice (some ⟨B,0,none⟩) n n] 146)).trans Bh;have hx:=Bh.get ((Z3 w3 (.cells #[.int .i64 r0,.int .i64 r1,.int .i64 r2,.int .i64 r3,.slice base n cap,.slice (some ⟨B,0,none⟩) n n] 146) w3.heap.size).trans (if_pos rfl));have hr:=(((Ext.rfl' w3).alloc (.cells #[.int .i64 r0,.int .i64 r1,.int .i64 r2,.int .i64 r3,.slice base n cap,.slice (some ⟨B,0,none⟩) n n] 146)).trans Bh).get (Am.get Ai);replace hC:=(hC.ext ((Ext.rfl' w3).alloc (.cells #[.int .i64 r0,.int .i64 r1,.int .i64 r2,.int .i64 r3,.slice base n cap,.slice (some ⟨B,0,none⟩) n n] 146))).ext Bh;have x0:=Z0 hx 0;have x1:=Z0 hx 1;have x2:=Z0 hx 2;have x3:=Z0 hx 3;have x4:=Z0 hx 4;have x5:=Z0 hx 5;simp only[List.getElem?_toArray,List.getElem?_cons_zero,List.getElem?_cons_succ] at x0 x1 x2 x3 x4 x5)
    |(go_at_call 124;refine(D5 _ _ _ (hm.ext hE) hC).mono ?_;rintro e w6 ⟨rfl,Le⟩
      replace hE:=hE.trans Le;replace hx:=Le.get hx;replace hr:=Le.get hr;replace hC:=hC.ext Le;clear x0 x1 x2 x3 x4 x5;have y4:=Z0 hr 4;simp only[List.getElem?_toArray,List.getElem?_cons_zero,List.getElem?_cons_succ] at y4))
   rw[Exit.noGoto_ret];refine bodyPost_ret (results_tmp2 rfl _ _ _) rfl ?_;exact⟨.slice none 0 0,by rw[hR.out];rfl,by rw[hL.out];exact World.ownsRow_nil _ _ _ _,hE⟩
  ·have hR:Hid (ZjZ r0 r1 r2 r3 S=0):=by show _=_;rw[hF.out,Tc.out];rfl
   have hL:Hid (ZjY r0 r1 r2 r3 S=Zk0 r0 r1 r2 r3 S n):=by show _=_;rw[ZjY,if_pos hR.out,Yr]
   have hat:=fun(B:Nat)(p:Nat->Nat)(set:Int)(d:Nat)(hs:0<=set/\set<256)(hd:d<=90)(W:World)(hm:Most W)(hC:Cv W B n p (cvS r0 r1 r2 r3 (S.map Ze)))=>Z2Y r0 r1 r2 r3 (.slice base n cap) B n d set p _ Cx hd hs W hm hC
   clear hF Tc Yr C2
   have Mc:∀i:Nat,0<=((2 ^ n - 1 - 2 ^ i:Nat):Int)/\((2 ^ n - 1 - 2 ^ i:Nat):Int)<256:=fun i=>by
    have h1:2 ^ n<=2 ^ 8:=Nat.pow_le_pow_right (by omega) Cx;have h3:2 ^ n - 1 - 2 ^ i<=2 ^ n - 1:=Nat.sub_le _ _;have h4:=Nat.two_pow_pos n;generalize 2 ^ n - 1 - 2 ^ i=z at h3⊢;omega
   obtain⟨F1,I1⟩:∃F:Nat->Int×Int,F=fun d=>atF (cvS r0 r1 r2 r3 (S.map Ze)) (2 ^ n - 1) d n:=⟨_,rfl⟩
   obtain⟨F2,A1⟩:∃F:Nat->Nat->Int×Int,F=fun i d=>atF (cvS r0 r1 r2 r3 (S.map Ze)) ((2 ^ n - 1 - 2 ^ i:Nat):Int) d n:=⟨_,rfl⟩
   replace Kc:Hid (∀i,Zk7 r0 r1 r2 r3 S i=(List.range 91).any fun d=>F1 d !=F2 i d):=by rw[I1,A1];exact Kc
   have Od:=fun(B:Nat)(p:Nat->Nat)(d:Nat)(hd:d<=90)(W:World) hm hC=>hat B p (2 ^ n - 1) d H5 hd W hm hC
   have Oe:=fun(B:Nat)(p:Nat->Nat)(i d:Nat)(hd:d<=90)(W:World) hm hC=>hat B p ((2 ^ n - 1 - 2 ^ i:Nat):Int) d (Mc i) hd W hm hC
   replace Od:∀(B:Nat)(p:Nat->Nat)(d:Nat),d<=90->∀W,Most W->Cv W B n p (cvS r0 r1 r2 r3 (S.map Ze))->Calls prog 105 #[.agg #[.int .i64 r0,.int .i64 r1,.int .i64 r2,.int .i64 r3,.slice base n cap,.slice (some ⟨B,0,none⟩) n n],.int .i64 (2 ^ n - 1),.int .i64 d] W fun e w''=>e= .returned (.agg #[.int .i64 (F1 d).1,.int .i64 (F1 d).2])/\Ext W w'':=by rw[I1];exact Od
   replace Oe:∀(B:Nat)(p:Nat->Nat)(i d:Nat),d<=90->∀W,Most W->Cv W B n p (cvS r0 r1 r2 r3 (S.map Ze))->Calls prog 105 #[.agg #[.int .i64 r0,.int .i64 r1,.int .i64 r2,.int .i64 r3,.slice base n cap,.slice (some ⟨B,0,none⟩) n n],.int .i64 ((2 ^ n - 1 - 2 ^ i:Nat):Int),.int .i64 d] W fun e w''=>e= .returned (.agg #[.int .i64 (F2 i d).1,.int .i64 (F2 i d).2])/\Ext W w'':=by rw[A1];exact Oe
   clear I1 A1 hat Mc;go_enter func81,ntmps81;go_wp2;refine wp_scope_straight ?_
   go_wp2_with (first
    |(go_at_call 62;refine Cl.mono ?_;rintro e w2 ⟨rfl,A8⟩;have Ah:=Af.trans A8;have Ai:=A8.get hb;have q0:=Z0 Ai 0;have q1:=Z0 Ai 1;have q2:=Z0 Ai 2;have q3:=Z0 Ai 3;have q4:=Z0 Ai 4;simp only[List.getElem?_toArray,List.getElem?_cons_zero,List.getElem?_cons_succ] at q0 q1 q2 q3 q4)
    |(go_at_call 123;refine(Gh _ (Z4J (hS.ext Ah) Br)).mono ?_;rintro e w3 ⟨B,p,rfl,Am,hC,_,_⟩;have Ay:=Ah.trans Am
      clear q0 q1 q2 q3 q4)
    |(go_at_call 106;refine(Ba _ _).mono ?_;rintro e w5 ⟨rfl,Bh⟩
      have hE:=(Ay.alloc (.cells #[.int .i64 r0,.int .i64 r1,.int .i64 r2,.int .i64 r3,.slice base n cap,.slice (some ⟨B,0,none⟩) n n] 146)).trans Bh;have hx:=Bh.get ((Z3 w3 (.cells #[.int .i64 r0,.int .i64 r1,.int .i64 r2,.int .i64 r3,.slice base n cap,.slice (some ⟨B,0,none⟩) n n] 146) w3.heap.size).trans (if_pos rfl));have hr:=(((Ext.rfl' w3).alloc (.cells #[.int .i64 r0,.int .i64 r1,.int .i64 r2,.int .i64 r3,.slice base n cap,.slice (some ⟨B,0,none⟩) n n] 146)).trans Bh).get (Am.get Ai);replace hC:=(hC.ext ((Ext.rfl' w3).alloc (.cells #[.int .i64 r0,.int .i64 r1,.int .i64 r2,.int .i64 r3,.slice base n cap,.slice (some ⟨B,0,none⟩) n n] 146))).ext Bh;have x0:=Z0 hx 0;have x1:=Z0 hx 1;have x2:=Z0 hx 2;have x3:=Z0 hx 3;have x4:=Z0 hx 4;have x5:=Z0 hx 5;simp only[List.getElem?_toArray,List.getElem?_cons_zero,List.getElem?_cons_succ] at x0 x1 x2 x3 x4 x5)
    |(go_at_call 124;refine(D5 _ _ _ (hm.ext hE) hC).mono ?_;rintro e w6 ⟨rfl,Le⟩
      replace hE:=hE.trans Le;replace hx:=Le.get hx;replace hr:=Le.get hr;replace hC:=hC.ext Le;clear x0 x1 x2 x3 x4 x5;have y4:=Z0 hr 4;simp only[List.getElem?_toArray,List.getElem?_cons_zero,List.getElem?_cons_succ] at y4))
   refine wp_label ?_;go_wp2;obtain⟨N,hN⟩:∃N,N=w6.heap.size:=⟨_,rfl⟩;go_loopw [7,26] (fun v7 v26 wr=>∃i:Nat,i<=n/\v26= .int .i64 i/\OwnI N wr v7 (Zk0 r0 r1 r2 r3 S i)/\Ext w6 wr) (fun _ v26 _=>n - (intOf v26).toNat)
   case atStart=>exact⟨0,Nat.zero_le _,rfl,World.ownsRow_nil _ _ _ _,Ext.rfl' _⟩
   case round=>
    obtain⟨i,hi,rfl,Ab,Bn⟩:=hrel;have Xd:=Bn.get hx;have Fm:=hC.ext Bn;have hmr:=(hm.ext hE).ext Bn;by_cases Aq:i=n
    ·subst Aq;go_wp2;rw[Exit.noGoto_ret];refine bodyPost_ret (results_tmp2 rfl _ _ _) rfl ?_;exact⟨_,by rw[hR.out];rfl,by rw[hL.out];exact Ab.le (by have:=hE.size;omega),hE.trans Bn⟩
    ·have A3:i<n:=(by omega);have Cu:(i:Int)<(n:Int):=(by omega);have Mv:bits .andNot .i64 ((2:Int) ^ n - 1) (wrap64 (2 ^ i))=((2 ^ n - 1 - 2 ^ i:Nat):Int):=by
      simpa using List.all_eq_true.1 (List.all_eq_true.1 less_mask_all n (List.mem_range.2 (by omega))) i (List.mem_range.2 A3)
     go_wp2;obtain⟨wo,rfl⟩:∃wo:World,wo=wr:=⟨_,rfl⟩;obtain⟨y7,rfl⟩:∃y,y=u7:=⟨_,rfl⟩;go_loopw [7,29] (fun v7 v29 w2=>∃d:Nat,d<=91/\v7=y7/\v29= .int .i64 d/\Ext wo w2/\Hid (∀e,e<d->F1 e=F2 i e)) (fun _ v29 _=>91 - (intOf v29).toNat)
     case atStart=>exact⟨0,Nat.zero_le _,rfl,rfl,Ext.rfl' _,fun e he=>by omega⟩
     case round=>
      obtain⟨d,hd,rfl,rfl,A8,Ed⟩:=hrel;have Hx:=A8.get Xd;have Oc:=Fm.ext A8;have Ys:=hmr.ext A8;have Yt:=Ab.ext A8;by_cases I7:d=91
      ·subst I7;have HF:Hid (Zk0 r0 r1 r2 r3 S (i+1)=Zk0 r0 r1 r2 r3 S i):=by
        show _=_;rw[Zk1,show Zk7 r0 r1 r2 r3 S i=false from ?_]
        ·simp
        ·rw[Kc.out,List.any_eq_false];intro d hd;rw[Ed.out d (List.mem_range.1 hd)];simp
       clear Ed;go_wp2;exact⟨⟨i+1,by omega,by push_cast;rfl,by rw[HF.out];exact Yt,Bn.trans A8⟩,by simp[intOf];omega⟩
      ·have Cw:d<=90:=(by omega);have Tj:(d:Int)<91:=(by omega);have x0:=Z0 Hx 0;have x1:=Z0 Hx 1;have x2:=Z0 Hx 2;have x3:=Z0 Hx 3;have x4:=Z0 Hx 4;have x5:=Z0 Hx 5;simp only[List.getElem?_toArray,List.getElem?_cons_zero,List.getElem?_cons_succ] at x0 x1 x2 x3 x4 x5;have g0:=Zet x0;have g1:=Zet x1;have g2:=Zet x2;have g3:=Zet x3;have g4:=Zet x4;have g5:=Zet x5;have Td:=fun W (hW:Ext wr W)=>Od B p d Cw W (Ys.ext hW) (Oc.ext hW)
       have Ka:=fun W (hW:Ext wr W)=>Oe B p i d Cw W (Ys.ext hW) (Oc.ext hW)
       go_wp2_with fail
       refine ZeG 12 (by kernel_rfl) ?_;refine ZeB [0,1,2,4,5,6,7,8,9] (by kernel_rfl) (by kernel_rfl) ?_;simp only[ZeD,List.getElem?_cons_succ,List.getElem?_cons_zero,List.cons_append,List.nil_append]
       repeat (go_big_quiet_step (fail))
       refine wpQuiet_nil ?_;refine ZeX 3 (f:=105) (args:= #[.agg #[.int .i64 r0,.int .i64 r1,.int .i64 r2,.int .i64 r3,.slice base n cap,.slice (some ⟨B,0,none⟩) n n],.int .i64 (2 ^ n - 1),.int .i64 d]) (v:= .agg #[.int .i64 (F1 d).1,.int .i64 (F1 d).2]) (by kernel_rfl) rfl (by kernel_rfl) rfl (fun W=>by simp[go_sem,execOp,Act.eval]) (Td) ?_;go_simp;refine ZeX 10 (f:=105) (args:= #[.agg #[.int .i64 r0,.int .i64 r1,.int .i64 r2,.int .i64 r3,.slice base n cap,.slice (some ⟨B,0,none⟩) n n],.int .i64 ((2 ^ n - 1 - 2 ^ i:Nat):Int),.int .i64 d]) (v:= .agg #[.int .i64 (F2 i d).1,.int .i64 (F2 i d).2]) (by kernel_rfl) rfl (by kernel_rfl) rfl (fun W=>by simp[go_sem,execOp,Act.eval,Mv]) (Ka) ?_;go_simp;refine ZeB [11] (by kernel_rfl) (by kernel_rfl) ?_;simp only[ZeD,List.getElem?_cons_succ,List.getElem?_cons_zero,List.cons_append,List.nil_append]
       repeat (go_big_quiet_step (fail))
       refine wpQuiet_nil ?_;refine Zf6 (by kernel_rfl) (fun W hW=> ?_);have Yu:=Yt.ext hW;have Az:=A8.trans hW;clear Td Ka x0 x1 x2 x3 x4 x5 g0 g1 g2 g3 g4 g5 Hx Oc Ys Yt hW A8;by_cases e:F1 d=F2 i d
       ·have hq:(!(F1 d).1==(F2 i d).1|| !(F1 d).2==(F2 i d).2)=false:=by rw[e];simp
        have Te:Hid (∀e,e<d+1->F1 e=F2 i e):=fun q hq=>by
         by_cases h:q=d
         ·subst h;exact e
         ·exact Ed.out q (by omega)
        rw[hq];clear Ed e;go_wp2;exact⟨⟨d+1,by omega,rfl,by push_cast;rfl,Az,Te⟩,by simp[intOf];omega⟩
       ·have hq:(!(F1 d).1==(F2 i d).1|| !(F1 d).2==(F2 i d).2)=true:=by
         rw[Bool.or_eq_true];by_cases h1:(F1 d).1=(F2 i d).1
         ·right
          have h2:(F1 d).2≠(F2 i d).2:=fun h2=>e (Prod.ext h1 h2)
          simpa using h2
         ·left;simpa using h1
        have HF:Hid (Zk0 r0 r1 r2 r3 S (i+1)=Zk0 r0 r1 r2 r3 S i++[(i:Int)]):=by
         show _=_;rw[Zk1,show Zk7 r0 r1 r2 r3 S i=true from ?_]
         ·simp
         ·rw[Kc.out,List.any_eq_true];exact⟨d,List.mem_range.2 (by omega),by simpa using e⟩
        have Nn:=Zkc r0 r1 r2 r3 S i;have hN2:N<=W.heap.size:=(by rw[hN];exact Nat.le_trans Bn.size Az.size);generalize Zk0 r0 r1 r2 r3 S i=l at Yu HF Nn;rw[hq];clear Ed e hq
        go_wp2_with (
         at_builtin
         refine wpList_append_own _ rfl _ _ _ rfl N 3 Tryz.t3 (.int .i64 0) 1 8 Go.Proofs.Tryq.u27 Go.Proofs.Tryq.i3 t3z t3s t3b rfl (by omega) _ _ _ rfl (Yu.alloc _) ⟨W.heap.size,0,none⟩ 1 1 [.int .i64 i] rfl rfl (Z1N _ _ _) (by intro u hu;simp at hu;subst hu;rfl) (by(try simp[maxLen]);omega) (by(try simp);omega) (by(try simp only[Z2]);omega) ?_;intro v' w3' Al Aa _;have Yv:Ext w6 w3':=((Bn.trans Az).alloc _).grown Aa (fun k hk=>by have:=(Yu.lt k hk).1;omega))
        exact⟨⟨i+1,by omega,by push_cast;rfl,by rw[HF.out];simpa[OwnI] using Al,Yv⟩,by simp[intOf];omega⟩
 ·have hF:Hid (ZjZ r0 r1 r2 r3 S=ZC r0 r1 r2 r3 S):=if_neg B8;have hL:Hid (ZjY r0 r1 r2 r3 S=[]):=if_neg (by rw[hF.out];exact B8);have hx:(ZC r0 r1 r2 r3 S !=0)=true:=by simpa using B8
  clear B8;generalize ZC r0 r1 r2 r3 S=x at hx Cl hF;go_enter func81,ntmps81;go_wp2;refine wp_scope_straight ?_
  go_wp2_with (first
   |(go_at_call 62;refine Cl.mono ?_;rintro e w2 ⟨rfl,A8⟩;have Ah:=Af.trans A8))
  rw[Exit.noGoto_ret];refine bodyPost_ret (results_tmp2 rfl _ _ _) rfl ?_;exact⟨.slice none 0 0,by rw[hF.out];rfl,by rw[hL.out];exact World.ownsRow_nil _ _ _ _,Ah⟩
end Go.Proofs.Tryq
namespace Go.Proofs.Tryq
open Go Go.Nk Go.RowKit
set_option linter.all false
theorem Zhx{w:World}{bl:Option Addr}{S:List Int}(h:RawI w bl S)(h0:S≠[]):∃b o,bl=some ⟨b,o,none⟩/\b<w.heap.size/\∀j u,(S.map (Value.int .i64))[j]? =some u->w.cell? ((⟨b,o,none⟩:Addr).add j)=some u:=by
 obtain⟨x,hx⟩:∃x,S[0]? =some x:=by
  cases S with
  |nil=>exact absurd rfl h0
  |cons x t=>exact⟨x,rfl⟩
 obtain⟨b,o,rfl,hb,_⟩:=h 0 x hx;refine⟨b,o,rfl,hb,fun j u hj=> ?_⟩;rw[List.getElem?_map] at hj;obtain⟨y,hy,rfl⟩:=Option.map_eq_some_iff.1 hj;obtain⟨b',o',e,_,hc⟩:=h j y hy;obtain⟨rfl,rfl⟩:b=b'/\o=o':=by simpa using e
 have e2:(⟨b,o,none⟩:Addr).add j=⟨b,o+j,none⟩:=by unfold Addr.add;split<;>simp_all
 rw[e2];exact hc
theorem Zhm{o:Oper}{a:Act}{w:World}{K:Act->World->Prop}{Q:Exit->Act->World->Prop}(s x:Operand)(ho:o.op= .call {callee:= .builtin .append,args:= #[s,x],argTypes:= #[27,27]})
 (base:Nat)(v:Value)(T:List Int)(hs:a.eval s=v)(Ab:OwnI base w v T)(bl:Option Addr)(c:Nat)(S:List Int)(hx:a.eval x= .slice bl S.length c)(Cj:bl=none->c=0)(hS:RawI w bl S)
 (hb:T.length+S.length<=1000000)(A4:base<=w.heap.size)(h:∀v' w',OwnI base w' v' (T++S)->w.grownBy w' v.ownBlock->K (a.put o.dst v') w'):o.wp prog a w K Q:=by
 cases bl with
 |none=>
  have Hc:S=[]:=by
   cases S with
   |nil=>rfl
   |cons x t=>
    obtain⟨b,o,e,_⟩:=hS 0 x rfl;cases e
  subst Hc;obtain rfl:=Cj rfl;have Ae:=run_append_owned_none (P:=prog) (w:=w) base 27 o.type 3 Tryz.t3 1 u27 i3 v T.length (T.map (Value.int .i64)) Ab;have hx:a.eval x= .slice none 0 0:=hx;unfold Oper.wp;simp[execOp,ho,resolve,invoke,builtin,hs,hx,Ae,Result.andThen];exact h v w (by rw[List.append_nil];exact Ab) ⟨rfl,rfl,rfl,Nat.le_refl _,fun b hb _=>rfl⟩
 |some ad=>
  have hn:∀j u,(S.map (Value.int .i64))[j]? =some u->w.cell? (ad.add j)=some u:=by
   by_cases h0:S=[]
   ·subst h0;intro j u hj;simp at hj
   ·obtain⟨b,o,e,_,hc⟩:=Zhx hS h0;cases e;exact hc
  refine wp_append_own w s x 27 ho base 3 Tryz.t3 (.int .i64 0) 1 8 u27 i3 t3z t3s t3b rfl (by omega) v T.length (T.map (Value.int .i64)) hs Ab ad S.length c (S.map (Value.int .i64)) hx (by simp) hn (by intro u hu;obtain⟨x,_,rfl⟩:=List.mem_map.1 hu;rfl) (by simp only[maxLen];omega) (by omega) A4 ?_;intro v' w' h1 h2 _;refine h v' w' ?_ h2;show w'.ownsRow base 3 1 v' (T++S).length ((T++S).map (Value.int .i64));rw[List.map_append,List.length_append];exact h1
set_option linter.all false
set_option linter.all false
set_option linter.all false
theorem RawI.drop{w:World}{b o:Nat}{l:List Int}(h:RawI w (some ⟨b,o,none⟩) l)(i:Nat):RawI w (some ⟨b,o+i,none⟩) (l.drop i):=by
 intro j x hx;rw[List.getElem?_drop] at hx;obtain⟨b',o',e,h1,h2⟩:=h (i+j) x hx;obtain⟨rfl,rfl⟩:b=b'/\o=o':=by simpa using e
 exact⟨b,o+i,rfl,h1,by rw[Nat.add_assoc];exact h2⟩
end Go.Proofs.Tryq
namespace Go.Proofs.Tryq
set_option maxRecDepth 100000
set_option maxHeartbeats 4000000
open Go Go.Nk Go.RowKit
set_option linter.all false
theorem Zkd(bl:Option Addr)(k cl:Nat)(l:List Int)(i:Nat)(w:World)(hk:l.length=k)(P0:k<=1000)(Jo:k<=cl)(hi:i<k)(hl:RawI w bl l):
 Calls prog 83 #[.slice bl k cl,.int .i64 i] w fun e w'=>∃v,e= .returned v/\OwnI w.heap.size w' v (l.eraseIdx i)/\Ext w w':=by
 obtain⟨x,hx⟩:∃y,l[i]? =some y:=⟨_,List.getElem?_eq_getElem (by omega)⟩;obtain⟨b,o,rfl,hb,hc⟩:=hl i x hx;have Jm:Hid (RawI w (if cl=i+1 then some ⟨b,o,none⟩ else some ⟨b,o+(i+1),none⟩) (l.drop (i+1))):=by
  show RawI _ _ _;split
  ·have:l.drop (i+1)=[]:=List.drop_of_length_le (by omega);rw[this];exact fun j y hy=>by simp at hy
  ·exact hl.drop (i+1)
 have A3:Hid (RawI w (some ⟨b,o,none⟩) (l.take i)):=fun j y hy=>by
  rw[List.getElem?_take] at hy;split at hy
  ·exact hl j y hy
  ·cases hy
 have Yw:(l.take i).length=i:=by rw[List.length_take];omega
 have hdp:(l.drop (i+1)).length=k - (i+1):=by rw[List.length_drop,hk]
 obtain⟨A,hA⟩:∃A:Option Addr,(if cl=i+1 then some ⟨b,o,none⟩ else some ⟨b,o+(i+1),none⟩)=A:=⟨_,rfl⟩;rw[hA] at Jm;have Kg:A=none->cl - (i+1)=0:=by intro h;rw[h] at hA;split at hA<;>cases hA
 have Cs:(0:Int)<=(i:Int)+1:=by omega
 have Do:(i:Int)+1<=(k:Int):=by omega
 have E7:(k:Int)<=(cl:Int):=by omega
 have Ei:(i:Int)<=(k:Int):=by omega
 have Nc:(i:Int)<=(cl:Int):=by omega
 have HE:Hid (l.eraseIdx i=l.take i++l.drop (i+1)):=List.eraseIdx_eq_take_drop_succ l i;have hcl0:¬cl=0:=by omega
 clear hl hx;have gy:True:=trivial;go_enter func83,ntmps83;go_wp2_with fail;refine Zhk (ExtX fun q=>w.heap.size<=q) (by kernel_rfl) ?_;refine Zh8 (ExtX.pre _) [1,2,3,5,6,7,8] (by kernel_rfl) (by kernel_rfl) ?_;simp only[ZeD,List.getElem?_cons_succ,List.getElem?_cons_zero,List.cons_append,List.nil_append]
 repeat (go_big_quiet_step (fail))
 refine wpQuiet_nil ?_;refine Zh4 0 rfl (by kernel_rfl) rfl ?_;clear gy;refine Zf3 ⟨.slice (some ⟨w.drew.heap.size,0,none⟩) 0 0,w.drew.alloc (.cells #[] 3),by simp[go_sem,execOp,Act.eval],Go.Nk.Ext.toX ((Ext.rfl' _).alloc _) _,?_⟩;have hz:(w.drew.alloc (.cells #[] 3)).heap[w.drew.heap.size]? =some (.cells #[] 3):=by rw[Z3,if_pos rfl]
 have Uq:OwnI w.heap.size (w.drew.alloc (.cells #[] 3)) (.slice (some ⟨w.drew.heap.size,0,none⟩) 0 0) []:=⟨rfl,.inr ⟨_,0,#[],rfl,Nat.le_refl _,hz,Nat.le_refl _,by simp[maxLen],rfl,rfl⟩⟩;have eA:=((Ext.rfl' w).drew).alloc (.cells #[] 3);generalize w.drew.alloc _=WA at Uq eA⊢;go_simp;refine Zh4 4 rfl (by kernel_rfl) rfl ?_;refine Zhm _ _ rfl w.heap.size _ [] rfl Uq (some ⟨b,o,none⟩) cl (l.take i) (by rw[Yw];rfl) (by intro h;cases h) ((A3.out).ext eA) (by simp[Yw];omega) eA.size (fun v3 W3 own3 hg3=>⟨Zhv hg3 (fun k hk=>(Uq.lt k hk).1),?_⟩);rw[List.nil_append] at own3;have e3:=eA.grown hg3 (fun k hk=>(Uq.lt k hk).1);go_simp;refine Zh4 9 rfl (by kernel_rfl) rfl ?_;refine Zhm _ _ rfl w.heap.size _ (l.take i) rfl own3 A (cl - (i+1)) (l.drop (i+1)) (by rw[hdp];rfl) Kg ((Jm.out).ext e3) (by simp[Yw,hdp];omega) e3.size (fun v4 W4 own4 hg4=>⟨Zhv hg4 (fun k hk=>(own3.lt k hk).1),?_⟩);have e4:=e3.grown hg4 (fun k hk=>(own3.lt k hk).1);go_simp;refine Zh8 (ExtX.pre _) [10] (by kernel_rfl) (by kernel_rfl) ?_;simp only[ZeD,List.getElem?_cons_succ,List.getElem?_cons_zero,List.cons_append,List.nil_append]
 repeat (go_big_quiet_step (fail))
 refine wpQuiet_nil ?_;refine ZhF (by kernel_rfl) ?_;go_wp2;go_ret;exact⟨_,rfl,by rw[HE.out];exact own4,e4⟩
set_option linter.all false
theorem Zkx(r0 r1 r2 r3:Int)(base:Option Addr)(n cap:Nat)(S:List Rs)(i:Nat)(w:World)(A0:S.length=n)(hn:n<=20)(hi:i<n)(hS:RawS w base S):
 Calls prog 134 #[.agg #[.int .i64 r0,.int .i64 r1,.int .i64 r2,.int .i64 r3,.slice base n cap],.int .i64 i] w fun e w'=>e= .returned (.bool (Zku r0 r1 r2 r3 S i))/\Ext w w':=by
 have Cb:=fun W=>Zg9 n W (by omega)
 have Kh:((upL n).eraseIdx i).length=n - 1:=by rw[List.length_eraseIdx,Zj5,if_pos hi]
 have Fy:∀ao cp W,n<=cp->RawI W ao (upL n)->Calls prog 83 #[.slice ao n cp,.int .i64 i] W fun e w'=>∃b2 c2,e= .returned (.slice b2 (n - 1) c2)/\RawI w' b2 ((upL n).eraseIdx i)/\Ext W w':=fun ao cp W D8 hI=>by
  refine(Zkd ao n cp (upL n) i W (Zj5 n) (by omega) D8 hi hI).mono ?_;rintro e w' ⟨v,rfl,hv,hE⟩;obtain⟨b2,c2,rfl,E9,_⟩:=hv.rawI;exact⟨b2,c2,by rw[Kh],E9,hE⟩
 have C0:=fun(d:Nat) W (hW:Ext w W)=>Zkl r0 r1 r2 r3 d base n cap S W A0 hn (by omega) (hS.ext hW)
 have C9:=fun(h1:0<n - 1)(d:Nat) b2 c2 W (hW:Ext w W)(hI:RawI W b2 ((upL n).eraseIdx i))=>Zg1 r0 r1 r2 r3 base n cap S b2 (n - 1) c2 ((upL n).eraseIdx i) d W A0 hn Kh (by omega) h1 (fun j hj=>Zk8 hj) (hS.ext hW) hI
 have hQ:Hid (Zku r0 r1 r2 r3 S i=((n==1)||(List.range 91).any fun d=>Z57 r0 r1 r2 r3 S d ((upL n).eraseIdx i) !=Z57 r0 r1 r2 r3 S d (upL n))):=by show _=_;rw[Zku,A0]
 have Af:=(Ext.rfl' w).alloc (.cells #[.int .i64 r0,.int .i64 r1,.int .i64 r2,.int .i64 r3,.slice base n cap] 70);have Ck:(w.alloc (.cells #[.int .i64 r0,.int .i64 r1,.int .i64 r2,.int .i64 r3,.slice base n cap] 70)).heap[w.heap.size]? =some (.cells #[.int .i64 r0,.int .i64 r1,.int .i64 r2,.int .i64 r3,.slice base n cap] 70):=(Z3 _ _ _).trans (if_pos rfl);by_cases I8:n=1
 ·have HR:Hid (Zku r0 r1 r2 r3 S i=true):=by show _=_;rw[hQ.out,I8];rfl
  have e1:((n:Int)==1)=true:=by simp[I8]
  clear hQ C0 C9 Fy Kh I8;go_enter func134,ntmps134
  go_wp2_with (first
   |(go_at_call 44;refine(Cb _).mono ?_;rintro e w2 ⟨x,rfl,hx,hF⟩
     obtain⟨ao,cp,rfl,hI,D8⟩:=hx.rawI;rw[Zj5];have hE:=Af.trans hF))
  go_ret;exact⟨ZP HR.out.symm,hE⟩
 ·have e1:((n:Int)==1)=false:=beq_eq_false_iff_ne.2 (by omega);replace C9:=C9 (by omega);have e2:(n==1)=false:=beq_eq_false_iff_ne.2 I8;obtain⟨m,hm⟩:∃m,m=n - 1:=⟨_,rfl⟩;rw[<-hm] at Fy C9;obtain⟨U,hU⟩:∃U:Nat->Int×Int,U=fun(d:Nat)=>Z57 r0 r1 r2 r3 S (d:Int) ((upL n).eraseIdx i):=⟨_,rfl⟩
  obtain⟨V,hV⟩:∃V:Nat->Int×Int,V=fun(d:Nat)=>Z57 r0 r1 r2 r3 S (d:Int) (upL n):=⟨_,rfl⟩
  replace hQ:Hid (Zku r0 r1 r2 r3 S i=(List.range 91).any fun d=>U d !=V d):=by show _=_;rw[hQ.out,e2,hU,hV];rfl
  replace C9:∀(d:Nat) b2 c2 W,Ext w W->RawI W b2 ((upL n).eraseIdx i)->Calls prog 102 #[.agg #[.int .i64 r0,.int .i64 r1,.int .i64 r2,.int .i64 r3,.slice base n cap],.slice b2 m c2,.int .i64 d] W fun e w'=>e= .returned (.agg #[.int .i64 (U d).1,.int .i64 (U d).2])/\Ext W w':=by rw[hU];exact C9
  replace C0:∀(d:Nat) W,Ext w W->Calls prog 133 #[.agg #[.int .i64 r0,.int .i64 r1,.int .i64 r2,.int .i64 r3,.slice base n cap],.int .i64 d] W fun e w'=>e= .returned (.agg #[.int .i64 (V d).1,.int .i64 (V d).2])/\Ext W w':=by rw[hV];exact C0
  clear hU hV hm Kh e2 I8;go_enter func134,ntmps134
  go_wp2_with (first
   |(go_at_call 44;refine(Cb _).mono ?_;rintro e w2 ⟨x,rfl,hx,hF⟩
     obtain⟨ao,cp,rfl,hI,D8⟩:=hx.rawI;rw[Zj5] at D8⊢;have hE:=Af.trans hF;have hr:=hF.get Ck;clear hx hF))
  go_loopw [6] (fun v6 wr=>∃d:Nat,d<=91/\v6= .int .i64 d/\Ext w wr/\wr.heap[w.heap.size]? =some (.cells #[.int .i64 r0,.int .i64 r1,.int .i64 r2,.int .i64 r3,.slice base n cap] 70)/\RawI wr ao (upL n)/\Hid (∀e,e<d->U e=V e)) (fun v6 _=>91 - (intOf v6).toNat)
  case atStart=>exact⟨0,by omega,rfl,hE,hr,hI,fun e he=>by omega⟩
  case round=>
   clear hE hr hI;obtain⟨d,hd,rfl,hE,hr,hI,Ed⟩:=hrel;by_cases I7:d=91
   ·have HR:Hid (Zku r0 r1 r2 r3 S i=false):=by
     show _=_;rw[hQ.out,List.any_eq_false];intro e he;rw[Ed.out e (by have:=List.mem_range.1 he;omega)];simp
    subst I7;clear hQ Ed C0 C9 Fy;go_wp2_with fail;go_ret;exact⟨ZP HR.out.symm,hE⟩
   ·have Cw:d<=90:=(by omega);have Tj:(d:Int)<=90:=(by omega);obtain⟨ua,Ur⟩:∃x,x=(U d).1:=⟨_,rfl⟩;obtain⟨ub,Us⟩:∃x,x=(U d).2:=⟨_,rfl⟩;obtain⟨va,P4⟩:∃x,x=(V d).1:=⟨_,rfl⟩;obtain⟨vb,Ut⟩:∃x,x=(V d).2:=⟨_,rfl⟩
    have HT:Hid ((!ua==va|| !ub==vb)=true->Zku r0 r1 r2 r3 S i=true):=fun h=>by
     rw[hQ.out,List.any_eq_true];refine⟨d,List.mem_range.2 (by omega),?_⟩;rw[bne_iff_ne];intro e;rw[Ur,Us,P4,Ut,e] at h;simp at h
    have HFq:Hid ((!ua==va|| !ub==vb)=false->Hid (∀e,e<d+1->U e=V e)):=fun h q hq=>by
     by_cases e:q=d
     ·subst e;rw[Ur,Us,P4,Ut] at h;simp at h;exact Prod.ext h.1 h.2
     ·exact Ed.out q (by omega)
    replace C9:=fun(d':Nat)(E2:d'=d)=>C9 d'
    replace C0:=fun(d':Nat)(E2:d'=d)=>C0 d'
    have C9:=fun(_:Nat)=>C9 d rfl
    have C0:=fun(_:Nat)=>C0 d rfl
    rw[<-Ur,<-Us] at C9;rw[<-P4,<-Ut] at C0;clear hQ Ed Ur Us P4 Ut;obtain⟨q0,q1,q2,q3,q4⟩:=ZgE hr;have g0:=Zet q0;have g1:=Zet q1;have g2:=Zet q2;have g3:=Zet q3;have g4:=Zet q4;go_wp2_with fail;refine ZeG 10 (by kernel_rfl) ?_;refine ZeB [0,1,2,4,6,7] (by kernel_rfl) (by kernel_rfl) ?_;simp only[ZeD,List.getElem?_cons_succ,List.getElem?_cons_zero,List.cons_append,List.nil_append]
    repeat (go_big_quiet_step (fail))
    refine wpQuiet_nil ?_;refine Zfa 3 rfl (by kernel_rfl) rfl (fun W hW=>Zfo (f:=83) (args:= #[.slice ao n cp,.int .i64 i]) (by simp[go_sem,execOp,Act.eval]) ?_);refine(Fy ao cp W D8 (hI.ext hW)).mono ?_;rintro e W2 ⟨b2,c2,rfl,E9,hF⟩;refine⟨.slice b2 m c2,rfl,hF,?_⟩;have hX:=hW.trans hF;clear hF hW;clear W;replace hr:=hX.get hr;clear g0 g1 g2 g3 g4 q0 q1 q2 q3 q4;obtain⟨q0,q1,q2,q3,q4⟩:=ZgE hr;have g0:=Zet q0;have g1:=Zet q1;have g2:=Zet q2;have g3:=Zet q3;have g4:=Zet q4;go_simp;refine ZeX 5 (f:=102) (args:= #[.agg #[.int .i64 r0,.int .i64 r1,.int .i64 r2,.int .i64 r3,.slice base n cap],.slice b2 m c2,.int .i64 d]) (v:= .agg #[.int .i64 ua,.int .i64 ub]) (by kernel_rfl) rfl (by kernel_rfl) rfl (fun W=>by simp[go_sem,execOp,Act.eval]) (fun W hW=>C9 d b2 c2 W (hE.trans (hX.trans hW)) (E9.ext hW)) ?_;go_simp;refine ZeX 8 (f:=133) (args:= #[.agg #[.int .i64 r0,.int .i64 r1,.int .i64 r2,.int .i64 r3,.slice base n cap],.int .i64 d]) (v:= .agg #[.int .i64 va,.int .i64 vb]) (by kernel_rfl) rfl (by kernel_rfl) rfl (fun W=>by simp[go_sem,execOp,Act.eval]) (fun W hW=>C0 d W (hE.trans (hX.trans hW))) ?_;go_simp;refine ZeB [9] (by kernel_rfl) (by kernel_rfl) ?_;simp only[ZeD,List.getElem?_cons_succ,List.getElem?_cons_zero,List.cons_append,List.nil_append]
    repeat (go_big_quiet_step (fail))
    refine wpQuiet_nil ?_;refine Zf6 (by kernel_rfl) (fun W hW=> ?_);have A8:=hE.trans (hX.trans hW);replace hr:=hW.get hr;have hI9:=hI.ext (hX.trans hW);clear hX hW hE hI E9 g0 g1 g2 g3 g4 q0 q1 q2 q3 q4;cases hq:(!ua==va|| !ub==vb) with
    |true=>
     have HR:Hid (Zku r0 r1 r2 r3 S i=true):=HT.out hq;clear HT HFq;go_wp2_with fail;go_ret;exact⟨ZP HR.out.symm,A8⟩
    |false=>
     have HN:=HFq.out hq;clear HT HFq;go_wp2_with fail;exact⟨⟨d+1,by omega,by push_cast;rfl,A8,hr,hI9,HN⟩,by simp[intOf];omega⟩
set_option linter.all false
def Zkt(r0 r1 r2 r3:Int)(S:List Rs)(i:Nat):List Int:=((List.range i).filter (Zku r0 r1 r2 r3 S)).map fun(i:Nat)=>(i:Int)
theorem ZkA(r0 r1 r2 r3:Int)(S:List Rs)(i:Nat):Zkt r0 r1 r2 r3 S (i+1)=Zkt r0 r1 r2 r3 S i++(if Zku r0 r1 r2 r3 S i then[(i:Int)] else[]):=by
 unfold Zkt;rw[List.range_succ,List.filter_append,List.map_append];congr 1;cases h:Zku r0 r1 r2 r3 S i<;>simp[h]
theorem ZkG(r0 r1 r2 r3:Int)(S:List Rs)(i:Nat):(Zkt r0 r1 r2 r3 S i).length<=i:=by
 have:=List.length_filter_le (Zku r0 r1 r2 r3 S) (List.range i);simpa[Zkt] using this
theorem Zky(r0 r1 r2 r3:Int)(base:Option Addr)(n cap:Nat)(S:List Rs)(w:World)(A0:S.length=n)(hn:n<=20)(hS:RawS w base S):
 Calls prog 82 #[.agg #[.int .i64 r0,.int .i64 r1,.int .i64 r2,.int .i64 r3,.slice base n cap]] w fun e w'=>∃v,e= .returned (.tuple #[v,.int .i64 (ZjZ r0 r1 r2 r3 S)])/\OwnI w.heap.size w' v (ZjY r0 r1 r2 r3 S)/\Ext w w':=by
 have hc:=fun W (hW:Ext w W)=>ZfQ r0 r1 r2 r3 base n cap S W A0 (hS.ext hW)
 have Cb:=fun W=>Zg9 n W (by omega)
 have Hw:=fun ao cp W (hW:Ext w W)(hI:RawI W ao (upL n))=>Zg2 r0 r1 r2 r3 base n cap S ao n cp (upL n) W A0 hn (Zj5 n) hn (fun j hj=>mem_upL.1 hj) (hS.ext hW) hI
 have Af:=(Ext.rfl' w).alloc (.cells #[.int .i64 r0,.int .i64 r1,.int .i64 r2,.int .i64 r3,.slice base n cap] 70);have Ck:(w.alloc (.cells #[.int .i64 r0,.int .i64 r1,.int .i64 r2,.int .i64 r3,.slice base n cap] 70)).heap[w.heap.size]? =some (.cells #[.int .i64 r0,.int .i64 r1,.int .i64 r2,.int .i64 r3,.slice base n cap] 70):=(Z3 _ _ _).trans (if_pos rfl);by_cases B8:ZC r0 r1 r2 r3 S=0
 ·have hF:ZjZ r0 r1 r2 r3 S=if Z20 r0 r1 r2 r3 S (upL n) then 0 else 10:=by rw[ZjZ,if_pos B8,Zkr B8,Zj8,A0]
  rw[B8] at hc;cases Gf:Z20 r0 r1 r2 r3 S (upL n) with
  |false=>
   rw[Gf,if_neg (by decide)] at hF;have hL:ZjY r0 r1 r2 r3 S=[]:=if_neg (by rw[hF];decide);rw[hF,hL];simp only[Gf] at Hw;clear B8 hF hL Gf;go_enter func82,ntmps82
   go_wp2_with (first
    |(go_at_call 63;refine(hc _ Af).mono ?_;rintro e w2 ⟨rfl,hF⟩
      have hE:=Af.trans hF;have hr:=hF.get Ck;clear hF;obtain⟨q0,q1,q2,q3,q4⟩:=ZgE hr))
   have g0:=Zet q0;have g1:=Zet q1;have g2:=Zet q2;have g3:=Zet q3;have g4:=Zet q4;refine ZeG 7 (by kernel_rfl) ?_;refine ZeB [0,1,2,3] (by kernel_rfl) (by kernel_rfl) ?_;simp only[ZeD,List.getElem?_cons_succ,List.getElem?_cons_zero,List.cons_append,List.nil_append]
   repeat (go_big_quiet_step (fail))
   refine wpQuiet_nil ?_;refine Zfa 4 rfl (by kernel_rfl) rfl (fun W hW=>Zfo (f:=44) (args:= #[.int .i64 n]) (by simp[go_sem,execOp,Act.eval]) ?_);refine(Cb W).mono ?_;rintro e W2 ⟨x,rfl,Gt,Ah⟩;obtain⟨ao,cp,rfl,hI,D8⟩:=Gt.rawI;rw[Zj5] at D8⊢;refine⟨.slice ao n cp,rfl,Ah,?_⟩;have Ay:=hW.trans Ah;clear Ah hW Gt;clear W;clear g0 g1 g2 g3 g4 q0 q1 q2 q3 q4;replace hr:=Ay.get hr;obtain⟨q0,q1,q2,q3,q4⟩:=ZgE hr;have g0:=Zet q0;have g1:=Zet q1;have g2:=Zet q2;have g3:=Zet q3;have g4:=Zet q4;go_simp;refine ZeX 5 (f:=43) (args:= #[.agg #[.int .i64 r0,.int .i64 r1,.int .i64 r2,.int .i64 r3,.slice base n cap],.slice ao n cp]) (v:= .bool false) (by kernel_rfl) rfl (by kernel_rfl) rfl (fun W=>by simp[go_sem,execOp,Act.eval]) (fun W hW=>Hw ao cp W (hE.trans (Ay.trans hW)) (hI.ext hW)) ?_;go_simp;refine ZeB [6] (by kernel_rfl) (by kernel_rfl) ?_;simp only[ZeD,List.getElem?_cons_succ,List.getElem?_cons_zero,List.cons_append,List.nil_append]
   repeat (go_big_quiet_step (fail))
   refine wpQuiet_nil ?_;refine Zf6 (by kernel_rfl) (fun W hW=> ?_);have Bh:=hE.trans (Ay.trans hW);replace hr:=hW.get hr;clear hE Ay hW q0 q1 q2 q3 q4 g0 g1 g2 g3 g4 hI D8 Hw Cb;clear hr;go_wp2_with fail;go_ret2;exact⟨_,rfl,World.ownsRow_nil _ _ _ _,Bh⟩
  |true=>
   rw[Gf,if_pos rfl] at hF
   have Tf:∀i,i<n->Zk7 r0 r1 r2 r3 S i=Zku r0 r1 r2 r3 S i:=fun i hi=>by
    have hg:Fine r0 r1 r2 r3 S:=⟨B8,fun e=>by rw[e] at A0;simp at A0;omega,by rw[A0];exact Gf⟩;exact hg.mat (by omega)
   have hL:ZjY r0 r1 r2 r3 S=Zkt r0 r1 r2 r3 S n:=by
    rw[ZjY,if_pos hF,A0,Zk0,Zkt];congr 1;exact List.filter_congr fun i hi=>Tf i (List.mem_range.1 hi)
   rw[hF,hL];simp only[Gf] at Hw;have Qf:=fun(i:Nat)(hi:i<n) W (hW:Ext w W)=>Zkx r0 r1 r2 r3 base n cap S i W A0 hn hi (hS.ext hW)
   have Ag:=ZkA r0 r1 r2 r3 S;have R1:=ZkG r0 r1 r2 r3 S;generalize Zkt r0 r1 r2 r3 S=G at Ag R1⊢;generalize Zku r0 r1 r2 r3 S=Q at Qf Ag;have Mo:G 0=[]:=List.eq_nil_of_length_eq_zero (by have:=R1 0;omega);clear B8 hF hL Gf Tf;go_enter func82,ntmps82
   go_wp2_with (first
    |(go_at_call 63;refine(hc _ Af).mono ?_;rintro e w2 ⟨rfl,hF⟩
      have hE:=Af.trans hF;have hr:=hF.get Ck;clear hF;obtain⟨q0,q1,q2,q3,q4⟩:=ZgE hr))
   have g0:=Zet q0;have g1:=Zet q1;have g2:=Zet q2;have g3:=Zet q3;have g4:=Zet q4;refine ZeG 7 (by kernel_rfl) ?_;refine ZeB [0,1,2,3] (by kernel_rfl) (by kernel_rfl) ?_;simp only[ZeD,List.getElem?_cons_succ,List.getElem?_cons_zero,List.cons_append,List.nil_append]
   repeat (go_big_quiet_step (fail))
   refine wpQuiet_nil ?_;refine Zfa 4 rfl (by kernel_rfl) rfl (fun W hW=>Zfo (f:=44) (args:= #[.int .i64 n]) (by simp[go_sem,execOp,Act.eval]) ?_);refine(Cb W).mono ?_;rintro e W2 ⟨x,rfl,Gt,Ah⟩;obtain⟨ao,cp,rfl,hI,D8⟩:=Gt.rawI;rw[Zj5] at D8⊢;refine⟨.slice ao n cp,rfl,Ah,?_⟩;have Ay:=hW.trans Ah;clear Ah hW Gt;clear W;clear g0 g1 g2 g3 g4 q0 q1 q2 q3 q4;replace hr:=Ay.get hr;obtain⟨q0,q1,q2,q3,q4⟩:=ZgE hr;have g0:=Zet q0;have g1:=Zet q1;have g2:=Zet q2;have g3:=Zet q3;have g4:=Zet q4;go_simp;refine ZeX 5 (f:=43) (args:= #[.agg #[.int .i64 r0,.int .i64 r1,.int .i64 r2,.int .i64 r3,.slice base n cap],.slice ao n cp]) (v:= .bool true) (by kernel_rfl) rfl (by kernel_rfl) rfl (fun W=>by simp[go_sem,execOp,Act.eval]) (fun W hW=>Hw ao cp W (hE.trans (Ay.trans hW)) (hI.ext hW)) ?_;go_simp;refine ZeB [6] (by kernel_rfl) (by kernel_rfl) ?_;simp only[ZeD,List.getElem?_cons_succ,List.getElem?_cons_zero,List.cons_append,List.nil_append]
   repeat (go_big_quiet_step (fail))
   refine wpQuiet_nil ?_;refine Zf6 (by kernel_rfl) (fun W hW=> ?_);have Bh:=hE.trans (Ay.trans hW);replace hr:=hW.get hr;clear hE Ay hW q0 q1 q2 q3 q4 g0 g1 g2 g3 g4 hI D8 Hw Cb;go_wp2_with fail;have hEo:=Bh;go_loopw [5,6] (fun v5 v6 wr=>∃i:Nat,i<=n/\v6= .int .i64 i/\OwnI (w.heap.size+1) wr v5 (G i)/\Ext w wr/\wr.heap[w.heap.size]? =some (.cells #[.int .i64 r0,.int .i64 r1,.int .i64 r2,.int .i64 r3,.slice base n cap] 70)) (fun _ v6 _=>n - (intOf v6).toNat)
   case atStart=>exact⟨0,Nat.zero_le _,rfl,by rw[Mo];exact World.ownsRow_nil _ _ _ _,Bh,hr⟩
   case round=>
    clear Bh hEo hr;obtain⟨i,hi,rfl,Ab,hE,hr⟩:=hrel;obtain⟨q0,q1,q2,q3,q4⟩:=ZgE hr;by_cases Aq:i=n
    ·subst Aq;go_wp2_with fail;go_ret2;exact⟨_,rfl,Ab.le (by omega),hE⟩
    ·have A3:i<n:=(by omega);have Cu:(i:Int)<(n:Int):=(by omega);have hm:=Qf i A3;have Cs:=Ag i;have G1:=R1 i;cases hq:Q i
     all_goals
      simp only[hq] at hm;rw[hq] at Cs;simp only[Bool.false_eq_true,if_false,if_true,List.append_nil] at Cs;have HN:Hid _:=Cs;clear Cs hq;generalize G i=l at Ab HN G1
      go_wp2_with (first
       |(go_at_call 134;refine(hm _ hE).mono ?_;rintro e w6 ⟨rfl,hF⟩
         replace hE:=hE.trans hF;replace hr:=hF.get hr;replace Ab:=Ab.ext hF;clear q0 q1 q2 q3 q4 hF)
       |(at_builtin
         have Hh:=Z5 hr;refine wpList_append_own _ rfl _ _ _ rfl (w.heap.size+1) 3 Tryz.t3 (.int .i64 0) 1 8 Go.Proofs.Tryq.u27 Go.Proofs.Tryq.i3 t3z t3s t3b rfl (by omega) _ _ _ rfl (Ab.alloc _) ⟨w6.heap.size,0,none⟩ 1 1 [.int .i64 i] rfl rfl (Z1N _ _ _) (by intro u hu;simp at hu;subst hu;rfl) (by(try simp[maxLen]);omega) (by(try simp);omega) (by(try simp only[Z2]);omega) ?_;intro v' w3' Al Aa Pa;have hrA:=((Ext.rfl' w6).alloc (.cells #[.int .i64 i] 3)).get hr;replace hr:=(Aa.block w.heap.size (Z5 hrA) (fun e=>by have:=(Ab.lt _ e.symm).1;omega)).trans hrA;replace hE:=(hE.alloc _).grown Aa (fun k hk=>by have:=(Ab.lt k hk).1;omega);replace Ab:OwnI (w.heap.size+1) w3' v' (l++[(i:Int)]):=by simpa[OwnI] using Al))
      exact⟨⟨i+1,by omega,by push_cast;rfl,by rw[HN.out];exact Ab,hE,hr⟩,by simp[intOf];omega⟩
 ·have hF:ZjZ r0 r1 r2 r3 S=ZC r0 r1 r2 r3 S:=if_neg B8;have hL:ZjY r0 r1 r2 r3 S=[]:=if_neg (by rw[hF];exact B8);have hx:(ZC r0 r1 r2 r3 S !=0)=true:=by simpa using B8
  rw[hF,hL];generalize ZC r0 r1 r2 r3 S=x at hx hc⊢;clear B8 hF hL Hw Cb;go_enter func82,ntmps82
  go_wp2_with (first
   |(go_at_call 63;refine(hc _ Af).mono ?_;rintro e w2 ⟨rfl,hF⟩
     have hE:=Af.trans hF;have hr:=hF.get Ck;clear hF;obtain⟨q0,q1,q2,q3,q4⟩:=ZgE hr))
  go_ret2;exact⟨_,rfl,World.ownsRow_nil _ _ _ _,hE⟩
end Go.Proofs.Tryq
