import Derived.Test.YtedkbdkbbnemlaaGreatDoorNk23
import Derived.Test.YtedkbdkbbnemlaaGreatDoorNk25
import Derived.Laws.NewBlocks
set_option linter.all false
namespace Go.Proofs.Tryq
set_option maxRecDepth 100000
set_option maxHeartbeats 4000000
open Go Go.Nk Go.RowKit
def bestV(x:Int×Int):Int×Int:=(wrap64 (x.2 - wrap64 ((wrap64 (wrap64 (x.2 - x.1)+1)).tdiv 2)),wrap64 ((wrap64 (wrap64 (x.2 - x.1)+1)).tdiv 2))
def Z8H(r0 r1 r2 r3:Int)(S:List Rs)(a:Int):Int×Int:=if ZA r0 r1 r2 r3 S a=0 then bestV (Z4L r0 r1 r2 r3 S a) else(0,0)
theorem Zc8(r0 r1 r2 r3:Int)(base:Option Addr)(n cap:Nat)(w:World)(at':Int)(S:List Rs)(A2:S.length=n)(hS:RawS w base S)(Dp:Most w):
 Calls prog 51 #[.agg #[.int .i64 r0,.int .i64 r1,.int .i64 r2,.int .i64 r3,.slice base n cap],.int .i64 at'] w fun e w'=>
  e= .returned (.tuple #[.int .i64 (Z8H r0 r1 r2 r3 S at').1,.int .i64 (Z8H r0 r1 r2 r3 S at').2,.int .i64 (ZA r0 r1 r2 r3 S at')])/\Ext w w':=by
 go_enter func51,ntmps51;go_wp2_with fail;have As:Ext w _:=(Ext.rfl' w).alloc (.cells #[.int .i64 r0,.int .i64 r1,.int .i64 r2,.int .i64 r3,.slice base n cap] 70);have hb:(w.alloc (.cells #[.int .i64 r0,.int .i64 r1,.int .i64 r2,.int .i64 r3,.slice base n cap] 70)).heap[w.heap.size]? =some (.cells #[.int .i64 r0,.int .i64 r1,.int .i64 r2,.int .i64 r3,.slice base n cap] 70):=by
  simp only[Z3,Z2];rw[if_pos trivial]
 generalize World.alloc _ _=w1 at As hb⊢;have hX:=Ext.rfl' w1;have q0:=Z0 hb 0;have q1:=Z0 hb 1;have q2:=Z0 hb 2;have q3:=Z0 hb 3;have q4:=Z0 hb 4;simp only[List.getElem?_toArray,List.getElem?_cons_zero,List.getElem?_cons_succ] at q0 q1 q2 q3 q4;have g0:=Zet q0;have g1:=Zet q1;have g2:=Zet q2;have g3:=Zet q3;have g4:=Zet q4;refine Zfn 9 8 7 [0,1,2,3,4,5,6] (.cells #[.int .i64 0,.int .i64 0,.int .i64 0,.int .i64 0,.slice none 0 0,.slice none 0 0] 146) (by kernel_rfl) rfl (by kernel_rfl) rfl rfl (fun a W=>by simp[go_sem,execOp,Act.eval]) ?_;refine Zfj [0,1] (by kernel_rfl) rfl rfl (by kernel_rfl) ?_;simp only[ZeD,List.getElem?_cons_succ,List.getElem?_cons_zero,List.cons_append,List.nil_append]
 repeat (go_big_quiet_step (fail))
 refine wpQuiet_nil ?_;refine Zfk 2 rfl (by kernel_rfl) rfl (fun W hW=>Zfo (f:=104) (args:= #[.int .i64 at']) (by simp[go_sem,execOp,Act.eval]) ?_);refine(Z9v at' W).mono ?_;rintro e V0 ⟨p0,rfl,hF,Bj⟩;refine⟨.func (.func 151) #[] #[.pointer (some ⟨p0,0,none⟩)],rfl,hF,?_⟩;replace hX:=hX.trans (hW.trans hF);clear hF hW;go_simp;refine Zfk 3 rfl (by kernel_rfl) rfl (fun W hW=>Zf3 ⟨.slice (some ⟨W.heap.size,0,none⟩) 1 1,W.alloc (.cells #[.func (.func 151) #[] #[.pointer (some ⟨p0,0,none⟩)]] 127),by simp[go_sem,execOp,Act.eval],(Ext.rfl' W).alloc _,?_⟩);have C4:=Z30 W #[.func (.func 151) #[] #[.pointer (some ⟨p0,0,none⟩)]] [(151,#[],#[.pointer (some ⟨p0,0,none⟩)])] W.heap.size rfl rfl;have hF:=(hW.alloc (.cells #[.func (.func 151) #[] #[.pointer (some ⟨p0,0,none⟩)]] 127));replace hX:=hX.trans hF;replace Bj:=hF.cellS Bj;clear hF hW;generalize W.heap.size=B2 at C4⊢;generalize World.alloc W _=V9 at*;go_simp;refine Zfk 4 rfl (by kernel_rfl) rfl (fun W hW=>Zfo (f:=103) (args:= #[.agg #[.int .i64 r0,.int .i64 r1,.int .i64 r2,.int .i64 r3,.slice base n cap],.slice (some ⟨B2,0,none⟩) 1 1]) (by simp[go_sem,execOp,Act.eval]) ?_)
 refine(Z4K r0 r1 r2 r3 base n cap W 1 B2 (by omega) [(151,#[],#[.pointer (some ⟨p0,0,none⟩)])] [Zv at'] rfl rfl (fun j x hj=>hW.cellS (C4 j x hj)) (by intro x hx args w';simp only[List.mem_cons,List.not_mem_nil,or_false] at hx;rcases hx with rfl<;>simp[go_sem]) (by
       intro j x r hj hr w' hw'
       match j,hj,hr with
       |0,hj,hr=>
        obtain rfl:=Option.some.inj hj;obtain rfl:=Option.some.inj hr;exact Z3x p0 at' w' ((hW.trans hw').cellS Bj)) S A2 (hS.ext (As.trans (hX.trans hW))) (Dp.ext (As.trans (hX.trans hW)))).mono ?_
 rintro e V10 ⟨k0,k1,k2,k3,b4,n4,c4,b5,n5,c5,rfl,hF,C7⟩;refine⟨.tuple #[.agg #[.int .i64 k0,.int .i64 k1,.int .i64 k2,.int .i64 k3,.slice b4 n4 c4,.slice b5 n5 c5],.int .i64 (firstV (Zy r0 r1 r2 r3 S [Zv at']))],rfl,hF,?_⟩;replace hX:=hX.trans (hW.trans hF);have Ao:Askd r0 r1 r2 r3 base n cap S [Zv at'] k0 k1 k2 k3 b4 n4 c4 b5 n5 c5 V10:=fun h=>by obtain⟨B,p,h0,h1,h2,h3,h4,h5,h6,h7,h8,h9,hC,_⟩:=C7 h;exact⟨B,p,h0,h1,h2,h3,h4,h5,h6,h7,h8,h9,hC⟩
 clear hF hW C7 C4 Bj;go_simp;refine Zfj [5,6,7] (by kernel_rfl) rfl rfl (by kernel_rfl) ?_;simp only[ZeD,List.getElem?_cons_succ,List.getElem?_cons_zero,List.cons_append,List.nil_append]
 repeat (go_big_quiet_step (fail))
 refine wpQuiet_nil ?_;refine Zfq (by kernel_rfl) (fun W hW b hA Bg Ae=> ?_);have G6:w1.heap.size<=b:=hA.1.1.1;replace hX:=hX.trans hW;replace Ao:=Ao.ext hW;clear hW;go_simp;refine Zfp 2 (by kernel_rfl) (fun W hW=> ?_);simp only[List.drop_succ_cons,List.drop_zero];replace hX:=hX.trans hW;replace Ao:=Ao.ext hW;replace Ae:=hW.get Ae;have Cj:w.heap.size<=b:=by have h1:=G6;have h2:=As.size;omega
 have B7:=As.trans hX;clear hA G6 Bg hW hX As hb q0 q1 q2 q3 q4 g0 g1 g2 g3 g4;have x0:=Z8 Ae 0;have x1:=Z8 Ae 1;have x2:=Z8 Ae 2;have x3:=Z8 Ae 3;have x4:=Z8 Ae 4;have x5:=Z8 Ae 5;have y0:=Z0 Ae 0;have y1:=Z0 Ae 1;have y2:=Z0 Ae 2;have y3:=Z0 Ae 3;have y4:=Z0 Ae 4;have y5:=Z0 Ae 5;simp only[List.getElem?_toArray,List.getElem?_cons_zero,List.getElem?_cons_succ] at y0 y1 y2 y3 y4 y5;have Ac:=Z0K Ae (.int .i64 k0) (.int .i64 k1) (.int .i64 k2) (.int .i64 k3) (.slice b4 n4 c4) (.slice b5 n5 c5);obtain⟨hX,Db⟩:=Ac;replace Ao:=Ao.stored Ae Db;replace B7:=Db.before B7 Cj;go_wp2_with fail;generalize ((((((W.setCell ⟨b,0,none⟩ (.int .i64 k0)).setCell ⟨b,1,none⟩ (.int .i64 k1)).setCell ⟨b,2,none⟩ (.int .i64 k2)).setCell ⟨b,3,none⟩ (.int .i64 k3)).setCell ⟨b,4,none⟩ (.slice b4 n4 c4)).setCell ⟨b,5,none⟩ (.slice b5 n5 c5))=X at hX Ao B7 Db⊢;clear Db Ae Cj x0 x1 x2 x3 x4 x5 y0 y1 y2 y3 y4 y5;refine Zfm ?_;go_wp2_with fail
 ·have A8:(firstV (Zy r0 r1 r2 r3 S [Zv at']) !=0)=true:=by assumption
  have Bq:¬ZA r0 r1 r2 r3 S at'=0:=by simpa[ZA] using A8
  go_ret3;exact⟨by rw[Z8H,if_neg Bq];rfl,B7⟩
 ·have heq:(firstV (Zy r0 r1 r2 r3 S [Zv at']) !=0)=false:=by assumption
  have Bq:firstV (Zy r0 r1 r2 r3 S [Zv at'])=0:=by simpa using heq
  obtain⟨F6,Fd,D2,Ml⟩:=Z11 Bq;obtain⟨_,h8,_⟩:=Z0i F6;have Ce:=Z0N (Fd (Zv at') (by simp));obtain⟨d,rfl⟩:=Int.eq_ofNat_of_zero_le Ce.1;have E3:d<=90:=by omega
  obtain⟨B,p',e0,e1,e2,e3,e4,e5,e6,e7,e8,e9,hC⟩:=Ao Bq;subst k0 k1 k2 k3 b4 n4 c4 b5 n5 c5;have Dx:n<=8:=by omega
  have Be:=fun v w'=>Z08 r0 r1 r2 r3 base n cap v Dx w'
  have hat:=fun w' hm' hC'=>Z2Y r0 r1 r2 r3 (.slice base n cap) B n d (2 ^ n - 1) p' (cvS r0 r1 r2 r3 (S.map Ze)) Dx E3 (Z2Z Dx) w' hm' hC'
  have HV:Hid (Z4L r0 r1 r2 r3 S d=atF (cvS r0 r1 r2 r3 (S.map Ze)) (2 ^ n - 1) d n):=by
   show _=_;rw[Z4L,Int.toNat_natCast,A2]
  have Dm:Hid (ZA r0 r1 r2 r3 S d=0):=Bq;have F7:=Dp.ext B7;clear Ao F6 Fd D2 Ml heq Bq Ce;generalize (2:Int) ^ n - 1=st at Be hat HV;generalize atF (cvS r0 r1 r2 r3 (S.map Ze)) st d n=V at hat HV;obtain⟨va,vb⟩:=V;have x0:=Z0 hX 0;have x1:=Z0 hX 1;have x2:=Z0 hX 2;have x3:=Z0 hX 3;have x4:=Z0 hX 4;have x5:=Z0 hX 5;simp only[List.getElem?_toArray,List.getElem?_cons_zero,List.getElem?_cons_succ] at x0 x1 x2 x3 x4 x5;have c0:=Zet x0;have c1:=Zet x1;have c2:=Zet x2;have c3:=Zet x3;have c4:=Zet x4;have c5:=Zet x5;refine Zfn 6 5 8 [0,1,2,3,4] (.cells #[.int .i64 0,.int .i64 0] 48) (by kernel_rfl) rfl (by kernel_rfl) rfl rfl (fun a W=>by simp[go_sem,execOp,Act.eval]) ?_;refine Zfj [0,1,3] (by kernel_rfl) rfl rfl (by kernel_rfl) ?_;simp only[ZeD,List.getElem?_cons_succ,List.getElem?_cons_zero,List.cons_append,List.nil_append]
  repeat (go_big_quiet_step (fail))
  refine wpQuiet_nil ?_;refine Zfr 2 (f:=106) (args:= #[.agg #[.int .i64 r0,.int .i64 r1,.int .i64 r2,.int .i64 r3,.slice base n cap,.slice (some ⟨B,0,none⟩) n n]]) (v:= .int .i64 st) (by kernel_rfl) rfl rfl rfl (by kernel_rfl) rfl (fun W=>by simp[go_sem,execOp,Act.eval]) (fun W _=>Be _ W) ?_;go_simp;refine Zfr 4 (f:=105) (args:= #[.agg #[.int .i64 r0,.int .i64 r1,.int .i64 r2,.int .i64 r3,.slice base n cap,.slice (some ⟨B,0,none⟩) n n],.int .i64 st,.int .i64 d]) (v:= .agg #[.int .i64 va,.int .i64 vb]) (by kernel_rfl) rfl rfl rfl (by kernel_rfl) rfl (fun W=>by simp[go_sem,execOp,Act.eval]) (fun W hW=>hat W (F7.ext hW) (hC.ext hW)) ?_;go_simp;refine Zfq (by kernel_rfl) (fun W hW b hA Bg Ae=> ?_);obtain⟨bx,rfl⟩:∃bx,bx=b:=⟨_,rfl⟩;have An:=hW;clear hW;go_simp;refine Zfp 1 (by kernel_rfl) (fun W hW=> ?_);simp only[List.drop_succ_cons,List.drop_zero];replace Ae:=hW.get Ae;have Bw:=(B7.trans An).trans hW;have Cj:w.heap.size<=bx:=by have h1:=hA;have h2:=B7.size;omega
  have Gf:=set_pair Ae (.int .i64 va) (.int .i64 vb);have Ji:=(Bw.setCell ⟨bx,0,none⟩ (.int .i64 va) Cj).setCell ⟨bx,1,none⟩ (.int .i64 vb) Cj;have g:=Zc Ae;have g0:=g.1;have g1:=g.2.1;have g2:=g.2.2.1;have g3:=g.2.2.2;clear g Bw B7 hW An Cj hA Bg hC F7 Be hat hX x0 x1 x2 x3 x4 x5 c0 c1 c2 c3 c4 c5;go_wp2_with fail;generalize (W.setCell ⟨bx,0,none⟩ (.int .i64 va)).setCell ⟨bx,1,none⟩ (.int .i64 vb)=Y at Gf Ji⊢;clear g0 g1 g2 g3 Ae;refine Zfm ?_;have g:=Zc Gf;have g0:=g.1;have g1:=g.2.1;have g2:=g.2.2.1;have g3:=g.2.2.2;go_wp2;go_ret3;exact⟨by rw[Z8H,if_pos Dm.out,Dm.out,HV.out];rfl,Ji⟩
end Go.Proofs.Tryq
namespace Go.Proofs.Tryq
open Go Go.Nk Go.RowKit
set_option linter.all false
structure Fine(r0 r1 r2 r3:Int)(S:List Rs):Prop where
 cf:ZC r0 r1 r2 r3 S=0
 ne:S≠[]
 ft:Z20 r0 r1 r2 r3 S (upL S.length)=true
section
variable {r0 r1 r2 r3:Int} {S:List Rs} (hg:Fine r0 r1 r2 r3 S)
include hg
end
set_option linter.all false
section
variable {r0 r1 r2 r3:Int} {S:List Rs} (hg:Fine r0 r1 r2 r3 S)
include hg
end
theorem Z64{w w':World}(h:w.grownBy w' none):Ext w w':=⟨h.size,fun b hb=>h.block b hb (fun e=>by cases e),h.tape,h.os,h.output⟩
theorem Z1p{w:World}{ops:Array Oper}{rest:List Oper}{o:Oper}{a:Act}{Q:Exit->Act->World->Prop}
 (hg:o.guard=none)(s x:Operand)(A1:o.op=Op.call {callee:=Callee.builtin Builtin.append,args:= #[s,x],argTypes:= #[57,57]})
 (B g:Nat)(u:Value)(hs:a.eval s= .slice (some ⟨g,0,none⟩) 1 1)(Ak:w.ownsRow B 27 1 (.slice (some ⟨g,0,none⟩) 1 1) 1 [u])(v:Value)(m:Nat)(vs:List Value)(hx:a.eval x=v)(Am:w.ownsRow B 27 1 v m vs)(D2:m=0->v= .slice none 0 0)
 (R5:∀u∈vs,u.oneCell'=true)(b1:m<=1000000)(b3:B<=w.heap.size)
 (hK:∀g' cap' w',w'.ownsRow B 27 1 (.slice (some ⟨g',0,none⟩) (m+1) cap') (m+1) (u::vs)->Ext w w'->wpList prog ops Q rest (a.put o.dst (.slice (some ⟨g',0,none⟩) (m+1) cap')) w'):
 wpList prog ops Q (o::rest) a w:=by
 have A2:vs.length=m:=by have:=Am.1;omega
 by_cases hm:m=0
 ·obtain rfl:=D2 hm;subst hm;obtain rfl:vs=[]:=List.eq_nil_of_length_eq_zero A2;refine wpList_plain hg fun K hK'=> ?_
  have Ag:=fun ty=>run_append_owned_none (P:=prog) w B 57 ty 27 Tryz.t27 1 u57 i27 (.slice (some ⟨g,0,none⟩) 1 1) 1 [u] Ak
  unfold Oper.wp;simp[execOp,A1,resolve,invoke,builtin,hs,hx,Ag o.type,Result.andThen];exact hK' _ _ (hK g 1 w Ak (Ext.rfl' w))
 ·obtain⟨gx,cx,rfl,_,_⟩:=Am.form (by omega);refine wpList_append_grows w hg s x 57 A1 27 Tryz.t27 (.slice none 0 0) 1 24 u57 i27 t27z t27s t27b rfl (by omega) (some ⟨g,0,none⟩) 1 1 [u] hs (fun h=>by cases h) rfl (fun b hb j w hj=>by cases hb;exact Ak.cells (g:=g) rfl j w hj) ⟨gx,0,none⟩ m cx vs hx (by omega) (Am.cells rfl) R5 (by omega) (by simp[maxLen];omega) (by omega) ?_;intro v' w' h1 h2;obtain⟨g',cap',rfl,_,_⟩:=World.ownsRow.form h1 (by omega);have e:m+1=1+m:=by omega
  exact hK g' cap' w' (by rw[e];exact Z05 (by simpa using h1) b3) (Z64 h2) |> fun h=>by rw[e] at h;exact h
end Go.Proofs.Tryq
namespace Go.Proofs.Tryq
set_option maxRecDepth 100000
set_option maxHeartbeats 8000000
open Go Go.Nk Go.RowKit
structure Ctb(a b c m:Int)(base:Option Addr)(n cap:Nat)(T:List (List Int))(B sb nb yb fb kb yk:Nat)(W:World):Prop where
 hs:W.heap[sb]? =some (.cells #[.int .i64 a,.int .i64 b,.int .i64 c,.int .i64 m,.slice base n cap] 120)
 hnb:W.heap[nb]? =some (.cells #[.map (some kb)] 183)
 hyb:W.heap[yb]? =some (.cells #[.map (some yk)] 182)
 hfn:W.heap[fb]? =some (.cells #[.func (.func 145) #[] #[.pointer (some ⟨sb,0,none⟩),.pointer (some ⟨nb,0,none⟩),.pointer (some ⟨yb,0,none⟩),.pointer (some ⟨fb,0,none⟩)]] 184)
 rows:∃G,MapAt prog 3 W yk G/\∀i:Nat,i<n->Shr B W ((G (.int .i64 i)).getD (.slice none 0 0)) (byL T i)
 ne:sb≠kb/\nb≠kb/\yb≠kb/\fb≠kb/\yk≠kb
 sz:B<=W.heap.size
theorem Ctb.step{a b c m:Int}{base:Option Addr}{n cap:Nat}{T:List (List Int)}{B sb nb yb fb kb yk:Nat}{W W':World}(h:Ctb a b c m base n cap T B sb nb yb fb kb yk W)(hX:Map1 kb W W'){es:Array MapEntry}{ck:Nat}(hk:W.heap[kb]? =some (.map es ck)):Ctb a b c m base n cap T B sb nb yb fb kb yk W':=by
 obtain⟨G,hG,hr⟩:=h.rows
 exact⟨(hX.block _ (Z5 h.hs) h.ne.1).trans h.hs,(hX.block _ (Z5 h.hnb) h.ne.2.1).trans h.hnb,(hX.block _ (Z5 h.hyb) h.ne.2.2.1).trans h.hyb,(hX.block _ (Z5 h.hfn) h.ne.2.2.2.1).trans h.hfn,
  ⟨G,hG.keep (hX.block _ hG.lt h.ne.2.2.2.2),fun i hi=>(hr i hi).map1 hX hk⟩,h.ne,Nat.le_trans h.sz hX.size⟩
theorem Z2B{kb:Nat}(w:World)(o:Obj):Map1 kb w (Go.ChangeMaps.setBlock w kb o):=
 ⟨rfl,rfl,rfl,by rw[Z2s];exact Nat.le_refl _,fun k _ hn=>Z0O hn o⟩
open Classical in
theorem Known.update{T:List (List Int)}{n B kb:Nat}{w:World}{G:Value->Option Value}(hT:Z62 T)(Jj:∀l∈T,(∀p∈l,0<=p/\p<(n:Int))/\l.length<=9)(hn:n<=9)(h:Known T n B kb w G)(key:Nat->Bool)(V:Value)(hV:Shr B w V (Zk T n 0 key)):
 ∃o G',(Instr.mapUpdate 183 (.map (some kb)) (.agg (Zs key)) V).run prog w= .ok () (Go.ChangeMaps.setBlock w kb o)/\Known T n B kb (Go.ChangeMaps.setBlock w kb o) G':=by
 obtain⟨kl,Ew⟩:=Z4k key;obtain⟨es,ck,Fc⟩:=h.isMap;obtain⟨o,h1,h2⟩:=h.map.update K138 u183 Ew V;refine⟨o,_,h1,h2,fun key' v hv=> ?_⟩;split at hv
 ·rename_i he;cases hv;have hk:Zs key'=Zs key:=by simpa using he
  rw[Z1W (N:=n) hT (fun l hl p hp=>((Jj l hl).1 p hp).2) n 0 key' key (fun j _ hj=>ZbV hk j (by omega))];exact hV.map1 (Z2B w o) Fc
 ·exact(h.val key' v hv).map1 (Z2B w o) Fc
theorem Z3N{B:Nat}{w:World}:∀{vs:List Value}{ls:List (List Int)},Each (fun u s=>OwnI B w u s) vs ls->∀u∈vs,u.oneCell'=true
 |[],_,_,u,hu=>by cases hu
 |v::vs,[],h,u,hu=>h.elim
 |v::vs,l::ls,⟨h1,h2⟩,u,hu=>by
  rcases List.mem_cons.1 hu with rfl|hu
  ·rcases h1.2 with⟨rfl,_⟩|⟨g,cp,_,rfl,_⟩<;>rfl
  ·exact Z3N h2 u hu
theorem Z2C(T:List (List Int)):∀(d i:Nat)(u:Nat->Bool),(Zk T d i u).length<=d
 |0,_,_=>by simp[Zk]
 |d+1,i,u=>by
  have hb:∀a b:List (List Int),a.length<=d+1->b.length<=d+1->(Z0q a b).length<=d+1:=fun a b h h'=>by unfold Z0q;split<;>assumption
  have hf:∀(B m:List (List Int)),m.length<=d+1->(B.foldl (ZL u (Zk T d (i+1))) m).length<=d+1:=by
   intro B
   induction B with
   |nil=>exact fun m h=>h
   |cons l B ih=>
    intro m h;rw[List.foldl_cons];refine ih _ ?_;unfold ZL;split
    ·exact h
    ·exact hb _ _ h (by rw[List.length_cons];have:=Z2C T d (i+1) (by assumption);omega)
  rw[Zk];exact hb _ _ (hf _ _ (by simp)) (by have:=Z2C T d (i+1) u;omega)
theorem Z8B(a b c m:Int)(base:Option Addr)(n cap:Nat)(T:List (List Int))(B sb nb yb fb kb yk:Nat)(hn:n<=9)(hT:Z62 T)(Wp:T.length<=1000000)(Jj:∀l∈T,(∀p∈l,0<=p/\p<n)/\l.length<=9):
 ∀(d i0:Nat)(used:Nat->Bool)(W:World)(G:Value->Option Value),i0+d=n->Ctb a b c m base n cap T B sb nb yb fb kb yk W->Known T n B kb W G->
 Calls prog 145 #[.int .i64 i0,.agg (Zs used),.pointer (some ⟨sb,0,none⟩),.pointer (some ⟨nb,0,none⟩),.pointer (some ⟨yb,0,none⟩),.pointer (some ⟨fb,0,none⟩)] W fun e W'=>∃v G',e= .returned v/\Shr B W' v (Zk T d i0 used)/\Known T n B kb W' G'/\Map1 kb W W':=by
 intro d
 induction d with
 |zero=>
  intro i0 used W G hd hC hK;have hi:i0=n:=by omega
  subst hi;have s4:=Z0 hC.hs 4;simp only[List.getElem?_toArray,List.getElem?_cons_zero,List.getElem?_cons_succ] at s4;have A3:=Z5 hC.hs;generalize Dz:Zs used=no;have Wh:no.size=9:=by rw[<-Dz];rfl
  go_enter func145,ntmps145;go_wp2;refine wp_scope_straight ?_;go_wp2;rw[Exit.noGoto_ret];refine bodyPost_ret (results_tmp rfl _ _ _) rfl ?_;exact⟨_,G,rfl,Shr.nil _ _,hK.ext ((Ext.rfl' W).alloc _),Map1.of_ext ((Ext.rfl' W).alloc _)⟩
 |succ d ih=>
  intro i0 used W G hd hC hK;have s4:=Z0 hC.hs 4;simp only[List.getElem?_toArray,List.getElem?_cons_zero,List.getElem?_cons_succ] at s4;have A3:=Z5 hC.hs;have Aq:((i0:Int)==(n:Int))=false:=by simp;omega
  simp only[Zs];go_enter func145,ntmps145;go_wp2;refine wp_scope_straight ?_;go_wp2;have B0:Ext W ((W.alloc (.cells (Zs used) 138)).alloc (.cells (Zs used) 138)):=((Ext.rfl' W).alloc _).alloc _;have Cg:((W.alloc (.cells (Zs used) 138)).alloc (.cells (Zs used) 138)).heap[W.heap.size]? =some (.cells (Zs used) 138):=by simp only[Z3,Z2];rw[if_neg (by omega),if_pos trivial]
  have Q2:((W.alloc (.cells (Zs used) 138)).alloc (.cells (Zs used) 138)).heap[W.heap.size+1]? =some (.cells (Zs (Z51 0 used)) 138):=by
   simp only[Z3,Z2];rw[if_pos trivial];rw[Z1o (out:=Z51 0 used) (out':=used) (fun j _=>by simp[Z51])]
  simp only[Zs] at B0 Cg Q2;generalize (W.alloc _).alloc _=W1 at B0 Cg Q2⊢;have hi9:i0<9:=by omega
  go_loopw [10,27] (fun _ v27 wr=>∃i:Nat,i<=i0/\v27= .int .i64 i/\Ext W wr/\wr.heap[W.heap.size]? =some (.cells (Zs used) 138)/\wr.heap[W.heap.size+1]? =some (.cells (Zs (Z51 i used)) 138)) (fun _ v27 _=>i0 - (intOf v27).toNat)
  case atStart=>exact⟨0,Nat.zero_le _,rfl,B0,Cg,Q2⟩
  case round=>
   obtain⟨i,hi,rfl,hE,h0,h1⟩:=hrel;clear B0 Cg Q2;by_cases hii:i=i0
   ·subst hii;have Rr:=hK.ext hE;obtain⟨kl,Ew⟩:=Z4k (Z51 i used);have Fs:=Rr.map.lookup K138 u183 (Zap wr) Ew true;have Es:Zk T (d+1) i used=Zk T n 0 (Z51 i used):=(by rw[Zao (N:=n) hT (fun l hl p hp=>((Jj l hl).1 p hp).2),hd]);have U6:=(Map1.of_ext (kb:=kb) hE).block nb (Z5 hC.hnb) hC.ne.2.1;have n0:=Z0 (U6.trans hC.hnb) 0;simp only[List.getElem?_toArray,List.getElem?_cons_zero] at n0;have y0:=Z0 h1 0;have y1:=Z0 h1 1;have y2:=Z0 h1 2;have y3:=Z0 h1 3;have y4:=Z0 h1 4;have y5:=Z0 h1 5;have y6:=Z0 h1 6;have y7:=Z0 h1 7;have y8:=Z0 h1 8;simp only[Zs,List.getElem?_toArray,List.getElem?_cons_zero,List.getElem?_cons_succ] at y0 y1 y2 y3 y4 y5 y6 y7 y8 Fs;cases hG:G (.agg (Zs (Z51 i used))) with
    |some v=>
     have hv:=Rr.val _ v hG;simp only[Zs] at hG;rw[hG] at Fs;simp only[if_true,Option.getD_some,Option.isSome_some] at Fs;go_wp2;rw[Exit.noGoto_ret];refine bodyPost_ret (results_tmp rfl _ _ _) rfl ?_;exact⟨v,G,rfl,by rw[Es];exact hv,Rr,Map1.of_ext hE⟩
    |none=>
     have hGn:G (.agg (Zs (Z51 i used)))=none:=hG;simp only[Zs] at hG;rw[hG] at Fs;simp only[if_true,Option.getD_none,Option.isSome_none] at Fs;obtain⟨es,ck,Fc⟩:=hK.isMap;have G7:=hC.step (Map1.of_ext hE) Fc;obtain⟨Gy,hGy,Bp⟩:=G7.rows;obtain⟨kl3,Wq⟩:=Z3M i (by omega);have Wr:=hGy.lookup K3 u182 (Zap wr) Wq false;have Am:=Bp i (by omega);simp only[if_neg (show¬(false=true) by decide)] at Wr;generalize (Gy (.int .i64 i)).getD (.slice none 0 0)=rv at Wr Am;obtain⟨ao,cp,rfl⟩:=Am.form;have x0:=Z0 G7.hyb 0;simp only[List.getElem?_toArray,List.getElem?_cons_zero] at x0;clear hGy Bp;go_wp2;refine wp_label ?_;go_wp2;have hmax:(byL T i).length<=1000000:=Nat.le_trans (List.length_filter_le _ _) Wp;obtain⟨wo,rfl⟩:∃wo:World,wo=wr:=⟨_,rfl⟩;clear y0 y1 y2 y3 y4 y5 y6 y7 y8 Fs Wr n0 x0;go_loopw [13,45] (fun v13 v45 w2=>∃(j:Nat)(G':Value->Option Value),j<=(byL T i).length/\v45= .int .i64 j/\Shr B w2 v13 (((byL T i).take j).foldl (ZL used (Zk T d (i+1))) [])/\Known T n B kb w2 G'/\Map1 kb wo w2) (fun _ v45 _=>(byL T i).length - (intOf v45).toNat)
     case atStart=>exact⟨0,G,Nat.zero_le _,rfl,Shr.nil _ _,Rr,Map1.refl _ _⟩
     case round=>
      obtain⟨j,G',hj,rfl,Hq,P6,Cs⟩:=hrel;obtain⟨es2,ck2,Nl⟩:=Rr.isMap;have Ew:=hK.map.lt;have Rt:=G7.step Cs Nl;have z0:=Z0 Rt.hfn 0;simp only[List.getElem?_toArray,List.getElem?_cons_zero] at z0;have Ot:=Z5 h0;have h7:wr.heap[W.heap.size]? =some (.cells (Zs used) 138):=(Cs.block _ Ot (by omega)).trans h0;have y0:=Z0 h7 0;have y1:=Z0 h7 1;have y2:=Z0 h7 2;have y3:=Z0 h7 3;have y4:=Z0 h7 4;have y5:=Z0 h7 5;have y6:=Z0 h7 6;have y7:=Z0 h7 7;have y8:=Z0 h7 8;simp only[Zs,List.getElem?_toArray,List.getElem?_cons_zero,List.getElem?_cons_succ] at y0 y1 y2 y3 y4 y5 y6 y7 y8;obtain⟨a13,c13,rfl⟩:=Hq.form;by_cases I3:j=(byL T i).length
      ·have Nm:Shr B wr (.slice a13 ((byL T i).foldl (ZL used (Zk T d (i+1))) []).length c13) ((byL T i).foldl (ZL used (Zk T d (i+1))) []):=(by rw[I3,List.take_length] at Hq;exact Hq);have B5:=ih (i+1) used wr G' (by omega) Rt P6;have F3:Zk T (d+1) i used=Z0q ((byL T i).foldl (ZL used (Zk T d (i+1))) []) (Zk T d (i+1) used):=rfl;rw[show((i+1:Nat):Int)=(i:Int)+1 from rfl] at B5;simp only[Zs] at B5;subst I3;rw[List.take_length];clear Hq;generalize (byL T i).foldl (ZL used (Zk T d (i+1))) []=M at Nm F3⊢;generalize Zk T d (i+1) used=M2 at B5 F3;by_cases C1:M.length<M2.length
       ·have Dt:=fun a3 c3 w=>Z1V a13 M.length c13 a3 M2.length c3 w
        simp only[if_pos C1] at Dt
        go_wp2_with (first
         |(go_at_call 145;refine B5.mono ?_;rintro e w3 ⟨v3,G3,rfl,Nn,Ru,Kg⟩
           obtain⟨a3,c3,rfl⟩:=Nn.form;obtain⟨es3,ck3,It⟩:=P6.isMap;have P4:=Rt.step Kg It;have Rv:=Nm.map1 Kg It;have n3:=Z0 P4.hnb 0;have F0:w3.heap[W.heap.size+1]? =some (.cells (Zs (Z51 i used)) 138):=(Kg.block _ (by have:=Cs.size;have:=Z5 h1;omega) (by omega)).trans ((Cs.block _ (Z5 h1) (by omega)).trans h1);have y0:=Z0 F0 0;have y1:=Z0 F0 1;have y2:=Z0 F0 2;have y3:=Z0 F0 3;have y4:=Z0 F0 4;have y5:=Z0 F0 5;have y6:=Z0 F0 6;have y7:=Z0 F0 7;have y8:=Z0 F0 8;simp only[Zs,List.getElem?_toArray,List.getElem?_cons_zero,List.getElem?_cons_succ] at y0 y1 y2 y3 y4 y5 y6 y7 y8 n3;obtain⟨o,G4,Eh,Ws⟩:=Ru.update hT Jj hn (Z51 i used) (.slice a3 M2.length c3) (by rw[<-Es,F3];simp only[Z0q,if_pos C1];assumption);have Rw:=Z2B (kb:=kb) w3 o;simp only[Zs] at Eh)
         |(go_at_call 146;refine(Dt _ _ _).mono ?_;rintro e w4 ⟨rfl,Ls⟩;subst Ls))
        obtain⟨es4,ck4,No⟩:=Ru.isMap;rw[Exit.noGoto_ret];refine bodyPost_ret (results_tmp rfl _ _ _) rfl ?_;exact⟨_,G4,rfl,by rw[F3];simp only[Z0q,if_pos C1];exact Nn.map1 Rw No,Ws,((Map1.of_ext hE).trans Cs).trans (Kg.trans Rw)⟩
       ·have Dt:=fun a3 c3 w=>Z1V a13 M.length c13 a3 M2.length c3 w
        simp only[if_neg C1] at Dt
        go_wp2_with (first
         |(go_at_call 145;refine B5.mono ?_;rintro e w3 ⟨v3,G3,rfl,Nn,Ru,Kg⟩
           obtain⟨a3,c3,rfl⟩:=Nn.form;obtain⟨es3,ck3,It⟩:=P6.isMap;have P4:=Rt.step Kg It;have Rv:=Nm.map1 Kg It;have n3:=Z0 P4.hnb 0;have F0:w3.heap[W.heap.size+1]? =some (.cells (Zs (Z51 i used)) 138):=(Kg.block _ (by have:=Cs.size;have:=Z5 h1;omega) (by omega)).trans ((Cs.block _ (Z5 h1) (by omega)).trans h1);have y0:=Z0 F0 0;have y1:=Z0 F0 1;have y2:=Z0 F0 2;have y3:=Z0 F0 3;have y4:=Z0 F0 4;have y5:=Z0 F0 5;have y6:=Z0 F0 6;have y7:=Z0 F0 7;have y8:=Z0 F0 8;simp only[Zs,List.getElem?_toArray,List.getElem?_cons_zero,List.getElem?_cons_succ] at y0 y1 y2 y3 y4 y5 y6 y7 y8 n3;obtain⟨o,G4,Eh,Ws⟩:=Ru.update hT Jj hn (Z51 i used) (.slice a13 M.length c13) (by rw[<-Es,F3];simp only[Z0q,if_neg C1];assumption);have Rw:=Z2B (kb:=kb) w3 o;simp only[Zs] at Eh)
         |(go_at_call 146;refine(Dt _ _ _).mono ?_;rintro e w4 ⟨rfl,Ls⟩;subst Ls))
        obtain⟨es4,ck4,No⟩:=Ru.isMap;rw[Exit.noGoto_ret];refine bodyPost_ret (results_tmp rfl _ _ _) rfl ?_;exact⟨_,G4,rfl,by rw[F3];simp only[Z0q,if_neg C1];exact Rv.map1 Rw No,Ws,((Map1.of_ext hE).trans Cs).trans (Kg.trans Rw)⟩
      ·have Cp:j<(byL T i).length:=(by omega);obtain⟨_,vs,hvr,Hr⟩:=Am.map1 Cs Nl;obtain⟨l,hl⟩:∃l,(byL T i)[j]? =some l:=⟨_,List.getElem?_eq_getElem Cp⟩;obtain⟨u,hu,Ek⟩:=Hr.get j l hl;have P0:=List.mem_of_getElem? hl;obtain⟨F5,tl,Rx⟩:=Z6Q hT P0;have hlT:=Jj l (List.mem_filter.1 P0).1;obtain⟨gr,cr,Ry,Rz,Kh⟩:=hvr.form (by rw[Hr.length];omega);obtain⟨rfl,Ki,rfl⟩:ao=some ⟨gr,0,none⟩/\(byL T i).length=vs.length/\cp=cr:=(by simpa using Ry);have Kj:=hvr.cells (g:=gr) rfl j u hu;rw[Z0c] at Kj;obtain⟨gl,cl,rfl,S1,Iu⟩:=Ek.form (by rw[Rx];simp);have U7:((byL T i).take (j+1)).foldl (ZL used (Zk T d (i+1))) []=ZL used (Zk T d (i+1)) (((byL T i).take j).foldl (ZL used (Zk T d (i+1))) []) l:=(by rw[Z0G hl,List.foldl_append];rfl);clear Rx;have hj0:(0:Int)<=(j:Int):=(by omega);have hjL:(j:Int)<((byL T i).length:Int):=(by omega);go_wp2;have B4:Ext wr (wr.alloc (.cells (Zs used) 138)):=(Ext.rfl' wr).alloc _;have h5:(wr.alloc (.cells (Zs used) 138)).heap[wr.heap.size]? =some (.cells (Zs used) 138):=(by rw[Z3,if_pos rfl]);simp only[Zs] at B4;have h5':(wr.alloc (.cells #[.bool (used 0),.bool (used 1),.bool (used 2),.bool (used 3),.bool (used 4),.bool (used 5),.bool (used 6),.bool (used 7),.bool (used 8)] 138)).heap[wr.heap.size]? =some (.cells (Zs used) 138):=h5
       clear h5 y0 y1 y2 y3 y4 y5 y6 y7 y8;generalize wr.alloc _=w6 at B4 h5'⊢;obtain⟨wq,rfl⟩:∃wq:World,wq=wr:=⟨_,rfl⟩;go_loopw [52] (fun v52 w3=>∃(k:Nat)(u':Nat->Bool),k<=l.length/\v52= .int .i64 k/\Ext wq w3/\w3.heap[wq.heap.size]? =some (.cells (Zs u') 138)/\Hid (take1 used l=take1 u' (l.drop k))) (fun v52 _=>l.length - (intOf v52).toNat)
       case atStart=>exact⟨0,used,Nat.zero_le _,rfl,B4,h5',rfl⟩
       case round=>
        obtain⟨k,u',hk,rfl,Bv,h6,Np⟩:=hrel;by_cases Wt:k=l.length
        ·subst Wt;have S2:take1 used l=some u':=(by rw[Np.out,List.drop_length];rfl);have P7:=Rt.step (Map1.of_ext Bv) (P6.isMap).choose_spec.choose_spec;have P8:=P6.ext Bv;have z6:=Z0 P7.hfn 0;simp only[List.getElem?_toArray,List.getElem?_cons_zero] at z6;have y0:=Z0 h6 0;have y1:=Z0 h6 1;have y2:=Z0 h6 2;have y3:=Z0 h6 3;have y4:=Z0 h6 4;have y5:=Z0 h6 5;have y6:=Z0 h6 6;have y7:=Z0 h6 7;have y8:=Z0 h6 8;simp only[Zs,List.getElem?_toArray,List.getElem?_cons_zero,List.getElem?_cons_succ] at y0 y1 y2 y3 y4 y5 y6 y7 y8;have ho6:=Ek.ext Bv;have S3:=Hq.ext Bv;have hfbl:fb<wr.heap.size:=Z5 P7.hfn;have hwql:wq.heap.size<wr.heap.size:=Z5 h6;have Kk:ZL used (Zk T d (i+1)) (((byL T i).take j).foldl (ZL used (Zk T d (i+1))) []) l=Z0q (((byL T i).take j).foldl (ZL used (Zk T d (i+1))) []) (l::Zk T d (i+1) u'):=(by simp only[ZL,S2]);have S4:∀W8,Ext wr W8->_:=fun W8 Jl=>ih (i+1) u' W8 G' (by omega) (P7.step (Map1.of_ext Jl) (P8.isMap).choose_spec.choose_spec) (P8.ext Jl)
         have Lt:=Z6s wr B 27 #[.slice (some ⟨gl,0,none⟩) l.length cl] 1 wr.heap.size rfl P7.sz rfl (by simp[maxLen]);rw[show((i+1:Nat):Int)=(i:Int)+1 from rfl] at S4;simp only[Zs] at S4;generalize ((byL T i).take j).foldl (ZL used (Zk T d (i+1))) []=Mp at S3 Kk U7⊢;have Ga:(Zk T d (i+1) u').length<=1000000:=Nat.le_trans (Z2C T d (i+1) u') (by omega);generalize Zk T d (i+1) u'=M9 at S4 Kk Ga;by_cases C1:Mp.length<M9.length+1
         ·have Dt:=fun a3 c3 w=>Z1V a13 Mp.length c13 a3 (M9.length+1) c3 w
          simp only[if_pos C1] at Dt
          go_wp2_with (first
           |(go_at_call 145;refine(S4 _ (by(repeat (with_reducible first|assumption|exact Ext.rfl' _|apply Ext.alloc|apply Ext.drew)))).mono ?_;rintro e w9 ⟨v9,G9,rfl,S5,Wu,Nq⟩
             obtain⟨a9,c9,rfl⟩:=S5.form;obtain⟨Iv,vs9,Nr,P9⟩:=S5;have Ke:=P9.length;have Iw:=Z2R (Lt:(wr.alloc (.cells #[.slice (some ⟨gl,0,none⟩) l.length cl] 27)).ownsRow B 27 1 _ 1 _) Nq (P8.ext ((Ext.rfl' wr).alloc (.cells #[.slice (some ⟨gl,0,none⟩) l.length cl] 27))).isMap.choose_spec.choose_spec)
           |(at_builtin
             refine Z1p rfl _ _ rfl B wr.heap.size _ rfl Iw (.slice a9 M9.length c9) M9.length vs9 rfl (by rw[<-Ke];exact Ke▸Nr) (fun h=>Iv (List.eq_nil_of_length_eq_zero h)) (Z3N P9) Ga (Nat.le_trans P7.sz (Nat.le_trans (by simp) Nq.size)) ?_;intro g' cap' w10 h10 E6)
           |(go_at_call 146;refine(Dt _ _ _).mono ?_;rintro e w4 ⟨rfl,Ls⟩;subst Ls))
          have Ix:Map1 kb wr w4:=((Map1.of_ext ((Ext.rfl' wr).alloc (.cells #[.slice (some ⟨gl,0,none⟩) l.length cl] 27))).trans Nq).trans (Map1.of_ext E6);have Jw:=P8.isMap.choose_spec.choose_spec;rw[Ki];refine⟨⟨_,_,_,_,_,_,_,_,_,_,_,_,_,_,_,_,_,_,_,_,_,_,_,_,_,_,_,_,_,_,_,_,⟨j+1,G9,by omega,by push_cast;rfl,?_,Wu.ext E6,(Cs.trans (Map1.of_ext Bv)).trans Ix⟩,rfl⟩,by simp[intOf];omega⟩;rw[U7,Kk,Z0q,if_pos (by simpa using C1)];exact⟨fun h=>(by cases h),_::vs9,by rw[List.length_cons,Ke];exact h10,Z2R ho6 Ix Jw,P9.mono fun u s h=>Z00 h E6⟩
         ·have Dt:=fun a3 c3 w=>Z1V a13 Mp.length c13 a3 (M9.length+1) c3 w
          simp only[if_neg C1] at Dt
          go_wp2_with (first
           |(go_at_call 145;refine(S4 _ (by(repeat (with_reducible first|assumption|exact Ext.rfl' _|apply Ext.alloc|apply Ext.drew)))).mono ?_;rintro e w9 ⟨v9,G9,rfl,S5,Wu,Nq⟩
             obtain⟨a9,c9,rfl⟩:=S5.form;obtain⟨Iv,vs9,Nr,P9⟩:=S5;have Ke:=P9.length;have Iw:=Z2R (Lt:(wr.alloc (.cells #[.slice (some ⟨gl,0,none⟩) l.length cl] 27)).ownsRow B 27 1 _ 1 _) Nq (P8.ext ((Ext.rfl' wr).alloc (.cells #[.slice (some ⟨gl,0,none⟩) l.length cl] 27))).isMap.choose_spec.choose_spec)
           |(at_builtin
             refine Z1p rfl _ _ rfl B wr.heap.size _ rfl Iw (.slice a9 M9.length c9) M9.length vs9 rfl (by rw[<-Ke];exact Ke▸Nr) (fun h=>Iv (List.eq_nil_of_length_eq_zero h)) (Z3N P9) Ga (Nat.le_trans P7.sz (Nat.le_trans (by simp) Nq.size)) ?_;intro g' cap' w10 h10 E6)
           |(go_at_call 146;refine(Dt _ _ _).mono ?_;rintro e w4 ⟨rfl,Ls⟩;subst Ls))
          have Ix:Map1 kb wr w4:=((Map1.of_ext ((Ext.rfl' wr).alloc (.cells #[.slice (some ⟨gl,0,none⟩) l.length cl] 27))).trans Nq).trans (Map1.of_ext E6);have Jw:=P8.isMap.choose_spec.choose_spec;rw[Ki];refine⟨⟨_,_,_,_,_,_,_,_,_,_,_,_,_,_,_,_,_,_,_,_,_,_,_,_,_,_,_,_,_,_,_,_,⟨j+1,G9,by omega,by push_cast;rfl,?_,Wu.ext E6,(Cs.trans (Map1.of_ext Bv)).trans Ix⟩,rfl⟩,by simp[intOf];omega⟩;rw[U7,Kk,Z0q,if_neg (by simpa using C1)];exact S3.map1 Ix Jw
        ·obtain⟨p,hp⟩:∃p,l[k]? =some p:=⟨_,List.getElem?_eq_getElem (by omega)⟩;have Nd:=hlT.1 p (List.mem_of_getElem? hp);obtain⟨q,rfl⟩:=Int.eq_ofNat_of_zero_le Nd.1;have Ns:q<9:=(by omega);have In:=Ek.cells (g:=gl) rfl k (.int .i64 q) (by rw[List.getElem?_map,hp];rfl);rw[Z0c] at In;replace In:=Bv.cellS In;have Pa:=Z0 h6 q;rw[Z1u _ q Ns] at Pa;have hfq:=Z8 h6 q;have Wj:(0:Int)<=(k:Int):=(by omega);have hkL:(k:Int)<(l.length:Int):=(by omega);have Q5:(0:Int)<=(q:Int):=(by omega);have Wv:(q:Int)<9:=(by omega);have Mk:=Z0b hp;by_cases U8:u' q=true
         ·rw[U8] at Pa;have S6:take1 used l=none:=(by rw[Np.out,Mk,take1,if_pos (by simpa using U8)]);go_wp2;refine⟨⟨j+1,G',by omega,by push_cast;rfl,?_,P6.ext Bv,Cs.trans (Map1.of_ext Bv)⟩,by simp[intOf];omega⟩;rw[U7];simp only[ZL,S6];exact Hq.ext Bv
         ·have Ww:u' q=false:=(by simpa using U8);rw[Ww] at Pa;have Wx:Hid (take1 used l=take1 (fun j=>u' j||j==q) (l.drop (k+1))):=by
           show _=_;rw[Np.out,Mk,take1,if_neg (by simpa using U8)];simp
          go_wp2;exact⟨⟨k+1,_,by omega,by push_cast;rfl,Bv.setCell _ _ (Nat.le_refl _),by rw[Zb h6,Z52 _ q Ns],Wx⟩,by simp[intOf];omega⟩
   ·have H5:i<i0:=(by omega);have c1:=Z0 h1 i;rw[Z1u _ i (by omega)] at c1;have f1:=Z8 h1 i;have C8:(0:Int)<=(i:Int):=(by omega);have hi8:(i:Int)<9:=(by omega);have hi7:(i:Int)<(i0:Int):=(by omega);go_wp2;refine⟨⟨i+1,by omega,by push_cast;rfl,hE.setCell _ _ (by simp),(set_ne (by simp) _).trans h0,?_⟩,by simp[intOf];omega⟩;rw[Zb h1,Z52 _ i (by omega)];rw[Z1o (out':=Z51 (i+1) used)];intro j _;simp only[Z51];by_cases hj:j=i
    ·subst hj;simp
    ·have e1:(j==i)=false:=(by simpa using hj);have e2:decide (j<i+1)=decide (j<i):=decide_eq_decide.2 (by omega);rw[e1,e2,Bool.or_false]
end Go.Proofs.Tryq
namespace Go.Nk
open Go Go.Region
open Go.Proofs.Tryq (Ext Z3 Z2)
variable {P:Program} {ops:Array Oper} {Q:Exit->Act->World->Prop}
variable {n:Nat} {Dl:List (Option Tmp)} {S:List (Option Value)} {L0:Tmp->Value} {M:(Nat->Bool)->(Tmp->Value)->World->Prop} {ℓ:Nat->Bool} {a:Act} {w w':World} {i:Nat} {o:Oper}
structure Sx where
 al:Nat
 t:Tmp
 k:Nat
 z:Array Value
 ty:TypeId
variable {w1:World} {B:List Sx} {x:Tmp->Value}
end Go.Nk
namespace Go.Proofs.Tryq
open Go Go.Nk Go.RowKit
open Go.Maps (Keyed)
open Go.ChangeMaps (setBlock)
theorem run_append_keep{P:Program}(w:World)(base:Nat)(t ty e:TypeId)(i:TypeInfo)(z:Value)(size bytes:Nat)(ht:P.underlying t=some (.slice e))(hi:P.info? e=some i)(hz:i.zero=some z)
 (Fi:i.size=size)(Jm:i.bytes=bytes)(U9:z.cells.size=size)(Ay:0<size)
 (v:Value)(n:Nat)(xs:List Value)(Ak:w.ownsRow base e size v n xs)
 (a:Addr)(m c:Nat)(news:List Value)(hl:news.length=m*size)(Fj:∀j u,news[j]? =some u->w.cell? (a.add j)=some u)(h1:∀u∈news,u.oneCell'=true)
 (Ua:n+m<=maxLen)(F1:(n+m)*bytes<=140737488355328)(A4:base<=w.heap.size):
 ∃v' w',(Builtin.append_ #[t,t] ty #[v,.slice (some a) m c]).run P w= .ok v' w'/\w'.ownsRow base e size v' (n+m) (xs++news)/\w.grownBy w' v.ownBlock/\
  ((v'.ownBlock=v.ownBlock)\/∀k,v'.ownBlock=some k->w.heap.size<=k):=by
 rcases Ak.2 with⟨rfl,rfl⟩|⟨g,cap,cur,rfl,Wa,hg,F8,Ti,Af,Ih⟩
 ·have hx:xs=[]:=List.eq_nil_of_length_eq_zero (by simpa using Ak.1);subst hx;obtain⟨v',w',r1,r2,r3,_⟩:=run_append_own (P:=P) w w.heap.size t ty e i z size bytes ht hi hz Fi Jm U9 Ay (.slice none 0 0) 0 [] (World.ownsRow_nil _ _ _ _) a m c news hl Fj h1 Ua F1 (Nat.le_refl _);exact⟨v',w',r1,Z05 r2 A4,r3,.inr fun k hk=>(r2.lt k hk).1⟩
 ·by_cases S7:n+m<=cap
  ·obtain⟨w',r1,r2,r3⟩:=run_append_fits (P:=P) w base t ty e i size ht hi Fi g n cap xs Ak a m c news hl Fj h1 S7;exact⟨_,w',r1,r2,r3,.inl rfl⟩
  ·obtain⟨v',w',r1,r2,r3⟩:=run_append_arg_grows (P:=P) w t ty e i z size bytes ht hi hz Fi Jm U9 Ay ⟨g,0,none⟩ n cap xs Ak.1 (Ak.cells (g:=g) rfl) a m c news hl Fj (by omega) Ua F1;exact⟨v',w',r1,Z05 r2 A4,⟨r3.os,r3.tape,r3.output,r3.size,fun b hb _=>r3.block b hb (fun e=>by cases e)⟩,.inr fun k hk=>(r2.lt k hk).1⟩
theorem Z3V{P:Program}{w:World}{o:Oper}{a:Act}{K:Act->World->Prop}{Q:Exit->Act->World->Prop}(s x:Operand)(t:TypeId)
 (ho:o.op= .call {callee:= .builtin .append,args:= #[s,x],argTypes:= #[t,t]})
 (base:Nat)(e:TypeId)(i:TypeInfo)(z:Value)(size bytes:Nat)(ht:P.underlying t=some (.slice e))(hi:P.info? e=some i)(hz:i.zero=some z)
 (Fi:i.size=size)(Jm:i.bytes=bytes)(U9:z.cells.size=size)(Ay:0<size)
 (v:Value)(n:Nat)(xs:List Value)(hs:a.eval s=v)(Ak:w.ownsRow base e size v n xs)
 (ad:Addr)(m c:Nat)(news:List Value)(hx:a.eval x= .slice (some ad) m c)(hl:news.length=m*size)(Fj:∀j u,news[j]? =some u->w.cell? (ad.add j)=some u)(h1:∀u∈news,u.oneCell'=true)
 (Ua:n+m<=maxLen)(F1:(n+m)*bytes<=140737488355328)(A4:base<=w.heap.size)
 (h:∀v' w',w'.ownsRow base e size v' (n+m) (xs++news)->w.grownBy w' v.ownBlock->((v'.ownBlock=v.ownBlock)\/∀k,v'.ownBlock=some k->w.heap.size<=k)->K (a.put o.dst v') w'):o.wp P a w K Q:=by
 obtain⟨v',w',hr,h2,h3,h4⟩:=run_append_keep (P:=P) w base t o.type e i z size bytes ht hi hz Fi Jm U9 Ay v n xs Ak ad m c news hl Fj h1 Ua F1 A4;unfold Oper.wp execOp;simp only[ho,resolve,invoke,builtin,Sem.run_bind,Sem.run_pure,Result.andThen_ok,List.map_toArray,List.map_cons,List.map_nil,hs,hx,hr];exact h v' w' h2 h3 h4
def ZO(G:Value->Option Value)(i:Nat):Value:=(G (.int .i64 i)).getD (.slice none 0 0)
def ByAt(B B2 n yk:Nat)(D:List (List Int))(w:World):Prop:=
 ∃G:Value->Option Value,MapAt prog 3 w yk G/\(∀i:Nat,i<n->Shr B w (ZO G i) (byL D i))/\(∀i j:Nat,i<n->j<n->i≠j->(ZO G i).ownBlock=none\/(ZO G i).ownBlock≠(ZO G j).ownBlock)/\∀i:Nat,i<n->∀k,(ZO G i).ownBlock=some k->B2<=k
theorem Shr.lt{B:Nat}{w:World}{v:Value}{ls:List (List Int)}(h:Shr B w v ls){k:Nat}(hk:v.ownBlock=some k):B<=k/\k<w.heap.size:=by
 obtain⟨_,vs,h1,_⟩:=h;exact h1.lt k hk
theorem Shr.isCells{B:Nat}{w:World}{v:Value}{ls:List (List Int)}(h:Shr B w v ls){k:Nat}(hk:v.ownBlock=some k):∃c,w.heap[k]? =some (.cells c 27):=by
 obtain⟨_,vs,h1,_⟩:=h;rcases h1.2 with⟨rfl,_⟩|⟨g,cp,cur,rfl,_,hg,_⟩
 ·cases hk
 ·cases hk;exact⟨cur,hg⟩
theorem Shr.grown{B:Nat}{W w:World}{v rv:Value}{ls rs:List (List Int)}(h:Shr B W v ls)(hr:Shr B W rv rs)(hg:W.grownBy w rv.ownBlock)(A8:v.ownBlock=none\/v.ownBlock≠rv.ownBlock):Shr B w v ls:=by
 obtain⟨h0,vs,h1,h2⟩:=h;refine⟨h0,vs,h1.kept hg A8,h2.mono fun u s hu=>hu.kept hg ?_⟩;obtain⟨_,rvs,k1,_⟩:=hr;exact Z4i hu k1 (by decide)
theorem OwnI.grownRow{B:Nat}{W w:World}{u rv:Value}{l:List Int}{rs:List (List Int)}(h:OwnI B W u l)(hr:Shr B W rv rs)(hg:W.grownBy w rv.ownBlock):OwnI B w u l:=by
 obtain⟨_,rvs,k1,_⟩:=hr;exact World.ownsRow.kept h hg (Z4i h k1 (by decide))
theorem ZbW(D:List (List Int))(l:List Int)(i:Nat):byL (D++[l]) i=if l.head? =some (i:Int) then byL D i++[l] else byL D i:=by
 unfold byL;rw[List.filter_append];by_cases h:l.head? =some (i:Int)
 ·rw[if_pos h,List.filter_cons_of_pos (by simpa using h),List.filter_nil]
 ·rw[if_neg h,List.filter_cons_of_neg (by simpa using h),List.filter_nil,List.append_nil]
open Classical in
theorem ByAt.step{B B2 n yk:Nat}{D:List (List Int)}{W:World}{G:Value->Option Value}(hm:MapAt prog 3 W yk G)(Bp:∀i:Nat,i<n->Shr B W (ZO G i) (byL D i))
 (Cb:∀i j:Nat,i<n->j<n->i≠j->(ZO G i).ownBlock=none\/(ZO G i).ownBlock≠(ZO G j).ownBlock)(Ar:∀i:Nat,i<n->∀k,(ZO G i).ownBlock=some k->B2<=k)(Nf:B2<=W.heap.size){l:List Int}{i:Nat}(hi:i<n)(hn:n<100)(hl:l.head? =some (i:Int)){u v':Value}{w3:World}{vs:List Value}
 (hu:OwnI B W u l)(E8:W.ownsRow B 27 1 (ZO G i) vs.length vs)(he:Each (fun u s=>OwnI B W u s) vs (byL D i))
 (Ak:w3.ownsRow B 27 1 v' (vs.length+1) (vs++[u]))(hg:W.grownBy w3 (ZO G i).ownBlock)(Iy:(v'.ownBlock=(ZO G i).ownBlock)\/∀k,v'.ownBlock=some k->W.heap.size<=k):
 ∃o,(Instr.mapUpdate 182 (.map (some yk)) (.int .i64 i) v').run prog w3= .ok () (setBlock w3 yk o)/\ByAt B B2 n yk (D++[l]) (setBlock w3 yk o):=by
 have hyk:∀k,(ZO G i).ownBlock=some k->k≠yk:=by
  rintro k hk rfl;obtain⟨c,hc⟩:=(Bp i hi).isCells hk;obtain⟨es,ck,hb,_⟩:=hm;rw[hb] at hc;cases hc
 have Mj:MapAt prog 3 w3 yk G:=hm.keep (hg.block _ hm.lt (fun e=>hyk _ e.symm rfl));obtain⟨es,ck,Fc,_⟩:=Mj;have Mj:MapAt prog 3 w3 yk G:=hm.keep (hg.block _ hm.lt (fun e=>hyk _ e.symm rfl));obtain⟨kl,Ew⟩:=Z3M i (by omega);obtain⟨o,h1,h2⟩:=Mj.update K3 u182 Ew v';refine⟨o,h1,_,h2,?_,?_,?_⟩
 ·have hX:=Z2B (kb:=yk) w3 o;intro j hj;have Am:ZO (fun x=>if x=Value.int .i64 i then some v' else G x) j=if j=i then v' else ZO G j:=by
   unfold ZO;by_cases Al:j=i
   ·subst Al;simp
   ·have A8:¬(Value.int .i64 (j:Int)=Value.int .i64 (i:Int)):=(by simp;omega);simp[Al,A8]
  rw[Am,ZbW];by_cases Al:j=i
  ·subst Al;rw[if_pos rfl,if_pos hl];have hr:=Bp j hj;refine Shr.map1 (w:=w3) ⟨fun h=>by simp at h,vs++[u],by simpa using Ak,Each.append (he.mono fun u s h=>OwnI.grownRow h hr hg) ⟨OwnI.grownRow hu hr hg,trivial⟩⟩ hX Fc
  ·rw[if_neg Al,if_neg (by rw[hl];simp;omega)];exact((Bp j hj).grown (Bp i hi) hg (Cb j i hj hi Al)).map1 hX Fc
 ·have Am:∀j:Nat,ZO (fun x=>if x=Value.int .i64 i then some v' else G x) j=if j=i then v' else ZO G j:=by
   intro j;unfold ZO;by_cases Al:j=i
   ·subst Al;simp
   ·have A8:¬(Value.int .i64 (j:Int)=Value.int .i64 (i:Int)):=(by simp;omega);simp[Al,A8]
  intro p q hp hq Du;rw[Am,Am];have key:∀j,j<n->j≠i->∀k,(ZO G j).ownBlock=some k->v'.ownBlock≠some k:=by
   intro j hj Al k hk he;rcases Iy with h|h
   ·rcases Cb j i hj hi Al with h'|h'
    ·rw[hk] at h';cases h'
    ·rw[hk,<-h,he] at h';exact h' rfl
   ·have:=h k he;have:=((Bp j hj).lt hk).2;omega
  by_cases Py:p=i
  ·have Fu:q≠i:=fun h=>Du (Py.trans h.symm)
   rw[if_pos Py,if_neg Fu];cases hv:v'.ownBlock with
   |none=>exact .inl rfl
   |some k=>exact .inr fun h=>key q hq Fu k h.symm hv
  ·rw[if_neg Py];by_cases Fu:q=i
   ·rw[if_pos Fu];cases hv:(ZO G p).ownBlock with
    |none=>exact .inl rfl
    |some k=>exact .inr fun h=>key p hp Py k hv h.symm
   ·rw[if_neg Fu];exact Cb p q hp hq Du
 ·intro j hj k;have Am:ZO (fun x=>if x=Value.int .i64 i then some v' else G x) j=if j=i then v' else ZO G j:=by
   unfold ZO;by_cases Al:j=i
   ·subst Al;simp
   ·have A8:¬(Value.int .i64 (j:Int)=Value.int .i64 (i:Int)):=(by simp;omega);simp[Al,A8]
  rw[Am];by_cases Al:j=i
  ·rw[if_pos Al];intro hk;rcases Iy with h|h
   ·exact Ar i hi k (by rw[<-h];exact hk)
   ·exact Nat.le_trans Nf (h k hk)
  ·rw[if_neg Al];exact Ar j hj k
end Go.Proofs.Tryq
